import PyProof.Rows.All
import Wide.All
import OpenK.AllK
import Wide.FinOn
import HandS.ForMost
import HandS.TupAny
import HandS.TupMul
import HandS.Style
import HandS.IsInst
import HandS.Wide
import HandS.Exc
import HandS.Flow
import KE.KRevSl
import HandS.Iter
import KE.GoesMore
import HandS.NestedK
import HandS.ExcCtx
import HandS.HotCalls
import HandS.ExcInit
import HandS.ExcInitHot
import HandS.ExcField
import HandS.FStr
import HandS.FStrTup
import KE.KExcSuper
import KE.KSuper
import KE.KExcIs
import PyProof.FString2
import HandS.SetFor
import HandS.SortInts
import HandS.StrMore
import HandS.Text
import HandS.Dict
import HandS.More
import HandS.CallSlots
import HandS.MakeKwOnly
import HandS.Property
import HandS.DictComp
import Flt.Ops
import KE.SortKeyed
import KE.DataCmp
import HandS.DictEq
import KE.KStateDown
import HandS.Head0
import HandS.Head1
import HandS.Head2
import HandS.HeadEnd
import HandS.HeadHook1
import HandS.HeadHook2
import PySem.Challenge.RW_tetherdeep_k09_texts_of_deeps
set_option Elab.async false
set_option linter.all false
set_option maxRecDepth 100000
set_option maxHeartbeats 4000000
namespace DL
open PySem PySem.Spec PyProof.Rows L2
section
/-! DL0: a logic over plain data, on top of the hand layer: what is frozen, what is owned, what the store of draws is. -/

/-! ### data -/
inductive D where
  | non | bl (b : Bool) | int (i : Int) | str (x : Str) | lst (xs : List D) | tup (xs : List D)
  | dic (kvs : List (Key × D)) | ins (c : Str) (fs : List (Str × D)) | scr (ns : List Int)
  | exc (a : Addr) (d : Option Addr) (c : Str) (fs : List (Str × D)) | ptr (a : Addr)
inductive O where
  | lst (xs : List D) | dic (kvs : List (Key × D)) | ins (c : Str) (fs : List (Str × D))
def O.d : O → D
  | .lst xs => .lst xs
  | .dic kvs => .dic kvs
  | .ins c fs => .ins c fs
/-- what a slot holds: frozen data, an object of one's own, the store, something but looked at (it was there ahead of the def and stays) -/
inductive B where
  | fro (d : D) | own (o : O) | sto | lk (d : D)
/-- the class of this name stands at C -/
def cAt (K : PySem.W.Frag) (c : Str) (C : Addr) : Prop := PySem.W.nsIn K mainGlobals c = some (some (.ref C))
theorem cAt.uniq {K : PySem.W.Frag} {c : Str} {C C' : Addr} (h : cAt K c C) (h' : cAt K c C') : C = C' := by
  unfold cAt at h h'
  rw [h] at h'
  cases h'
  rfl
def D.sca : D → Bool
  | .non => true
  | .bl _ => true
  | .int _ => true
  | .str _ => true
  | _ => false

mutual
inductive Rep (K : PySem.W.Frag) (H : Hp) : V → D → Prop
  | non : Rep K H .non .non
  | bl (b : Bool) : Rep K H (.bl b) (.bl b)
  | int (i : Int) : Rep K H (.int i) (.int i)
  | str (x : Str) : Rep K H (.str x) (.str x)
  | lst {a : Addr} {vs : List V} {ds : List D} : H a = some (.lst vs) → RepL K H vs ds → Rep K H (.ref a) (.lst ds)
  | tup {a : Addr} {vs : List V} {ds : List D} : H a = some (.tup vs) → RepL K H vs ds → Rep K H (.ref a) (.tup ds)
  | dic {a : Addr} {kvs : List (Key × V)} {ds : List (Key × D)} : L2.Rd H a (.dK kvs) → RepK K H kvs ds → Rep K H (.ref a) (.dic ds)
  | ins {a C dx : Addr} {c : Str} {fs : List (Str × V)} {ds : List (Str × D)} : cAt K c C → H a = some (.ins C dx fs) → RepF K H fs ds → Rep K H (.ref a) (.ins c ds)
  | ptr {a : Addr} : Rep K H (.ref a) (.ptr a)
  | scr {a : Addr} {ns : List Int} : SqL K H a (ns.map V.int) → Rep K H (.ref a) (.scr ns)
  | exc0 {a : Addr} {c : Str} : Rep K H (.ref a) (.exc a none c [])
  | exc1 {a d : Addr} {c : Str} {fs : List (Str × V)} {ds : List (Str × D)} : H d = some (.xd fs) → RepF K H fs ds → Rep K H (.ref a) (.exc a (some d) c ds)
inductive RepL (K : PySem.W.Frag) (H : Hp) : List V → List D → Prop
  | nil : RepL K H [] []
  | cons {v : V} {d : D} {vs : List V} {ds : List D} : Rep K H v d → RepL K H vs ds → RepL K H (v :: vs) (d :: ds)
inductive RepK (K : PySem.W.Frag) (H : Hp) : List (Key × V) → List (Key × D) → Prop
  | nil : RepK K H [] []
  | cons {k : Key} {v : V} {d : D} {vs : List (Key × V)} {ds : List (Key × D)} : Rep K H v d → RepK K H vs ds → RepK K H ((k, v) :: vs) ((k, d) :: ds)
inductive RepF (K : PySem.W.Frag) (H : Hp) : List (Str × V) → List (Str × D) → Prop
  | nil : RepF K H [] []
  | cons {k : Str} {v : V} {d : D} {vs : List (Str × V)} {ds : List (Str × D)} : Rep K H v d → RepF K H vs ds → RepF K H ((k, v) :: vs) ((k, d) :: ds)
end

theorem same_sq {K : PySem.W.Frag} {H H' : Hp} {a : Addr} {xs : List V} (e : Same H H') (h : SqL K H a xs) : SqL K H' a xs := e.seq h
mutual
theorem Rep.mono {K : PySem.W.Frag} {H H' : Hp} (e : Same H H') : ∀ {v : V} {d : D}, Rep K H v d → Rep K H' v d
  | _, _, .non => .non
  | _, _, .bl b => .bl b
  | _, _, .int i => .int i
  | _, _, .str x => .str x
  | _, _, .lst h r => .lst (e _ _ h) (RepL.mono e r)
  | _, _, .tup h r => .tup (e _ _ h) (RepL.mono e r)
  | _, _, .dic h r => .dic (h.imp (e _ _) fun ⟨o, h⟩ => ⟨o, e _ _ h⟩) (RepK.mono e r)
  | _, _, .ins g h r => .ins g (e _ _ h) (RepF.mono e r)
  | _, _, .ptr => .ptr
  | _, _, .scr h => .scr (same_sq e h)
  | _, _, .exc0 => .exc0
  | _, _, .exc1 h r => .exc1 (e _ _ h) (RepF.mono e r)
theorem RepL.mono {K : PySem.W.Frag} {H H' : Hp} (e : Same H H') : ∀ {v : List V} {d : List D}, RepL K H v d → RepL K H' v d
  | _, _, .nil => .nil
  | _, _, .cons h r => .cons (Rep.mono e h) (RepL.mono e r)
theorem RepK.mono {K : PySem.W.Frag} {H H' : Hp} (e : Same H H') : ∀ {v : List (Key × V)} {d : List (Key × D)}, RepK K H v d → RepK K H' v d
  | _, _, .nil => .nil
  | _, _, .cons h r => .cons (Rep.mono e h) (RepK.mono e r)
theorem RepF.mono {K : PySem.W.Frag} {H H' : Hp} (e : Same H H') : ∀ {v : List (Str × V)} {d : List (Str × D)}, RepF K H v d → RepF K H' v d
  | _, _, .nil => .nil
  | _, _, .cons h r => .cons (Rep.mono e h) (RepF.mono e r)
end
theorem Rep.sca {K : PySem.W.Frag} {H H' : Hp} {v : V} {d : D} (h : Rep K H v d) (s : d.sca = true) : Rep K H' v d := by
  cases h with
  | non => exact .non
  | bl b => exact .bl b
  | int i => exact .int i
  | str x => exact .str x
  | lst _ _ => cases s
  | tup _ _ => cases s
  | dic _ _ => cases s
  | ins _ _ _ => cases s
  | ptr => cases s
  | scr _ => cases s
  | exc0 => cases s
  | exc1 _ _ => cases s
section
variable {K : PySem.W.Frag} {H : Hp}
theorem RepL.len : ∀ {vs : List V} {ds : List D}, RepL K H vs ds → vs.length = ds.length
  | _, _, .nil => rfl
  | _, _, .cons _ r => congrArg (· + 1) r.len
theorem RepL.get : ∀ {vs : List V} {ds : List D} {i : Nat} {d : D}, RepL K H vs ds → ds[i]? = some d → ∃ v, vs[i]? = some v ∧ Rep K H v d
  | _, _, _, _, .nil, e => by simp at e
  | _, _, 0, _, .cons h _, e => by
    have e := Option.some.inj e
    subst e
    exact ⟨_, rfl, h⟩
  | _, _, i + 1, d, .cons _ r, e => RepL.get (i := i) r e
theorem RepL.getV : ∀ {vs : List V} {ds : List D} {i : Nat} {v : V}, RepL K H vs ds → vs[i]? = some v → ∃ d, ds[i]? = some d ∧ Rep K H v d
  | _, _, _, _, .nil, e => by simp at e
  | _, _, 0, _, .cons h _, e => by
    have e := Option.some.inj e
    subst e
    exact ⟨_, rfl, h⟩
  | _, _, i + 1, d, .cons _ r, e => RepL.getV (i := i) r e
theorem RepL.app : ∀ {vs us : List V} {ds es : List D}, RepL K H vs ds → RepL K H us es → RepL K H (vs ++ us) (ds ++ es)
  | _, _, _, _, .nil, r => r
  | _, _, _, _, .cons h t, r => .cons h (RepL.app t r)
theorem RepL.take : ∀ (n : Nat) {vs : List V} {ds : List D}, RepL K H vs ds → RepL K H (vs.take n) (ds.take n)
  | 0, _, _, _ => .nil
  | _ + 1, _, _, .nil => .nil
  | n + 1, _, _, .cons h r => .cons h (RepL.take n r)
theorem RepL.drop : ∀ (n : Nat) {vs : List V} {ds : List D}, RepL K H vs ds → RepL K H (vs.drop n) (ds.drop n)
  | 0, _, _, r => r
  | _ + 1, _, _, .nil => .nil
  | n + 1, _, _, .cons _ r => RepL.drop n r
theorem RepL.rev {vs : List V} {ds : List D} (h : RepL K H vs ds) : RepL K H vs.reverse ds.reverse := by
  induction vs generalizing ds with
  | nil => cases h; exact .nil
  | cons v vs ih =>
    cases h with
    | cons h r =>
      rw [List.reverse_cons, List.reverse_cons]
      exact (ih r).app (.cons h .nil)
theorem RepL.dropLast {vs : List V} {ds : List D} (h : RepL K H vs ds) : RepL K H vs.dropLast ds.dropLast := by
  rw [List.dropLast_eq_take, List.dropLast_eq_take, h.len]
  exact h.take _
theorem RepL.set {v : V} {d : D} (hv : Rep K H v d) : ∀ (n : Nat) {vs : List V} {ds : List D}, RepL K H vs ds → RepL K H (vs.set n v) (ds.set n d)
  | _, _, _, .nil => .nil
  | 0, _, _, .cons _ r => .cons hv r
  | n + 1, _, _, .cons h r => .cons h (RepL.set hv n r)
theorem RepL.rep {vs : List V} {ds : List D} (h : RepL K H vs ds) : ∀ n : Nat, RepL K H (List.replicate n vs).flatten (List.replicate n ds).flatten
  | 0 => .nil
  | n + 1 => by
    rw [List.replicate_succ, List.replicate_succ, List.flatten_cons, List.flatten_cons]
    exact h.app (RepL.rep h n)
theorem RepL.ints : ∀ ns : List Int, RepL K H (ns.map V.int) (ns.map D.int)
  | [] => .nil
  | n :: ns => .cons (.int n) (RepL.ints ns)
theorem RepL.strs : ∀ ns : List Str, RepL K H (ns.map V.str) (ns.map D.str)
  | [] => .nil
  | n :: ns => .cons (.str n) (RepL.strs ns)
theorem RepL.strs_of : ∀ {ns : List Str} {vs : List V}, RepL K H vs (ns.map D.str) → vs = ns.map V.str
  | [], _, .nil => rfl
  | n :: ns, _, .cons h r => by
    cases h
    rw [RepL.strs_of r]
    rfl
theorem RepL.ints_of : ∀ {ns : List Int} {vs : List V}, RepL K H vs (ns.map D.int) → vs = ns.map V.int
  | [], _, .nil => rfl
  | n :: ns, _, .cons h r => by
    cases h
    rw [RepL.ints_of r]
    rfl
end

/-! ### the store of draws -/
structure Sto where
  cells : List Int
  at_ : Nat
  left : Int
  blend : Int
  turn : Int
def StoAt (Hf H : Hp) (a : Addr) (S : Sto) : Prop := ∃ c, H a = some (.lst [.ref c, .int S.at_, .int S.left, .int S.blend, .int S.turn]) ∧ Hf c = some (.lst (S.cells.map V.int))

/-- objects of one's own by their addresses (what a pointer leads to) -/
class Hpl where
  l : List (Addr × O)
instance hpl0 : Hpl := ⟨[]⟩
structure Ev where
  sl : List (Option B)
  S : Option Sto := none
  [hp : Hpl]
abbrev Ev.w (Γ : Ev) (sl : List (Option B)) (S : Option Sto) : Ev := @Ev.mk sl S Γ.hp
abbrev Ev.hs (Γ : Ev) (l : List (Addr × O)) : Ev := @Ev.mk Γ.sl Γ.S ⟨l⟩
abbrev Ev.set (Γ : Ev) (i : Nat) (b : B) : Ev := @Ev.mk (Γ.sl.set i (some b)) Γ.S Γ.hp
abbrev Ev.drop (Γ : Ev) (i : Nat) : Ev := @Ev.mk (Γ.sl.set i none) Γ.S Γ.hp
def hpS (l : List (Addr × O)) : List (Option B) := l.map fun p => some (.own p.2)
def hpV (l : List (Addr × O)) : L2.St := l.map fun p => some (.ref p.1)
theorem hp_len (l : List (Addr × O)) : (hpV l).length = (hpS l).length := by unfold hpS hpV; rw [List.length_map, List.length_map]
/-- the slots, and the objects by their addresses behind them -/
abbrev Ev.all (Γ : Ev) : List (Option B) := Γ.sl ++ hpS Γ.hp.l
abbrev Ev.vals (Γ : Ev) (σ : L2.St) : L2.St := σ ++ hpV Γ.hp.l

/-- the entry: the heap, its frozen part, the store handed in -/
structure Yn where
  H0 : Hp
  Hf0 : Hp
  a0 : Option Addr
def OwnAt (K : PySem.W.Frag) (Hf H : Hp) (a : Addr) : O → Prop
  | .lst ds => ∃ vs, H a = some (.lst vs) ∧ RepL K Hf vs ds
  | .dic ds => ∃ kvs, H a = some (.dK kvs) ∧ RepK K Hf kvs ds
  | .ins c ds => ∃ C dx fs, cAt K c C ∧ H a = some (.ins C dx fs) ∧ RepF K Hf fs ds
/-- in the frozen part, or something whose items are -/
def LRep (K : PySem.W.Frag) (Hf H : Hp) (v : V) (d : D) : Prop := Rep K Hf v d ∨ ∃ a o, v = .ref a ∧ d = o.d ∧ OwnAt K Hf H a o
def BAt (K : PySem.W.Frag) (y : Yn) (Hf : Hp) (aS : Option Addr) (H : Hp) (v : V) : B → Prop
  | .fro d => Rep K Hf v d
  | .own o => ∃ a, v = .ref a ∧ OwnAt K Hf H a o ∧ Hf a = none ∧ y.H0 a = none ∧ aS ≠ some a
  | .sto => ∃ a, v = .ref a ∧ aS = some a
  | .lk d => Rep K Hf v d ∨ ∃ a o, v = .ref a ∧ d = o.d ∧ OwnAt K Hf y.H0 a o ∧ y.a0 ≠ some a
/-- what a def hands back -/
def RAt (K : PySem.W.Frag) (y : Yn) (Hf : Hp) (aS : Option Addr) (H : Hp) (v : V) : B → Prop
  | .lk _ => False
  | .fro d => BAt K y Hf aS H v (.fro d)
  | .own o => BAt K y Hf aS H v (.own o)
  | .sto => BAt K y Hf aS H v .sto
theorem RAt.b {K : PySem.W.Frag} {y : Yn} {Hf : Hp} {aS : Option Addr} {H : Hp} {v : V} {r : B} (h : RAt K y Hf aS H v r) : BAt K y Hf aS H v r ∧ ∀ d, r ≠ .lk d := by
  cases r with
  | lk d => exact h.elim
  | fro d => exact ⟨h, fun e z => nomatch z⟩
  | own d => exact ⟨h, fun e z => nomatch z⟩
  | sto => exact ⟨h, fun e z => nomatch z⟩
def Stc (Hf H : Hp) : Option Addr → Option Sto → Prop
  | none, none => True
  | some a, some S => StoAt Hf H a S ∧ Hf a = none
  | _, _ => False
/-- the core: what was handed in stands, the frozen part has grown by new objects alone -/
structure Co (y : Yn) (Hf : Hp) (aS : Option Addr) (S : Option Sto) (H : Hp) : Prop where
  kept : ∀ a o, y.H0 a = some o → y.a0 ≠ some a → H a = some o
  frz : Same Hf H
  mon : Same y.Hf0 Hf
  new : ∀ a o, Hf a = some o → (∃ u, y.Hf0 a = some u) ∨ y.H0 a = none
  sto : Stc Hf H aS S
  st0 : y.a0 = none ∨ y.a0 = aS
  s00 : ∀ a, aS = some a → y.a0 = none → y.H0 a = none
structure Sl (K : PySem.W.Frag) (y : Yn) (Hf : Hp) (aS : Option Addr) (sl : List (Option B)) (σ : L2.St) (H : Hp) : Prop where
  len : σ.length = sl.length
  slot : ∀ (i : Nat) (b : B), sl[i]? = some (some b) → ∃ v, σ[i]? = some (some v) ∧ BAt K y Hf aS H v b
  sep : ∀ (i j : Nat) (a : Addr) (oi oj : O), sl[i]? = some (some (B.own oi)) → sl[j]? = some (some (B.own oj)) → σ[i]? = some (some (V.ref a)) → σ[j]? = some (some (V.ref a)) → i = j
structure At (K : PySem.W.Frag) (y : Yn) (Hf : Hp) (aS : Option Addr) (Γ : Ev) (σ : L2.St) (H : Hp) : Prop where
  co : Co y Hf aS Γ.S H
  sl : Sl K y Hf aS Γ.all (Γ.vals σ) H
def Keep (aS : Option Addr) (H H' : Hp) : Prop := ∀ a o, H a = some o → aS ≠ some a → H' a = some o
theorem Keep.refl (aS : Option Addr) (H : Hp) : Keep aS H H := fun _ _ h _ => h
theorem Keep.trans {aS : Option Addr} {H H1 H2 : Hp} (a : Keep aS H H1) (b : Keep aS H1 H2) : Keep aS H H2 := fun c o h n => b c o (a c o h n) n
theorem Keep.of_same {aS : Option Addr} {H H' : Hp} (e : Same H H') : Keep aS H H' := fun a o h _ => e a o h
/-- the heap without the store -/
def hid (aS : Option Addr) (H : Hp) : Hp := fun a => if aS = some a then none else H a
theorem hid_ne {aS : Option Addr} {H : Hp} {a : Addr} (h : aS ≠ some a) : hid aS H a = H a := if_neg h
theorem hid_get {aS : Option Addr} {H : Hp} {a : Addr} {o : HO} (h : hid aS H a = some o) : aS ≠ some a ∧ H a = some o := by
  unfold hid at h
  split at h
  · cases h
  · exact ⟨by assumption, h⟩
theorem Keep.hid {aS : Option Addr} {H H' : Hp} (k : Keep aS H H') : Same (hid aS H) (hid aS H') := fun a o h => by
  obtain ⟨n, h⟩ := hid_get h
  rw [hid_ne n]
  exact k a o h n

theorem Stc.none {Hf H : Hp} {aS : Option Addr} {S : Option Sto} (h : Stc Hf H aS S) {a : Addr} (e : aS = some a) : Hf a = none ∧ ∃ o, H a = some o := by
  subst e
  cases S with
  | none => exact h.elim
  | some S =>
    obtain ⟨⟨c, h1, _⟩, h2⟩ := h
    exact ⟨h2, _, h1⟩
theorem Co.shid {y : Yn} {Hf H : Hp} {aS : Option Addr} {S : Option Sto} (c : Co y Hf aS S H) : Same Hf (hid aS H) := fun a o h => by
  have n : aS ≠ some a := fun e => by
    have := (c.sto.none e).1
    rw [this] at h
    cases h
  rw [hid_ne n]
  exact c.frz a o h
theorem OwnAt.mono {K : PySem.W.Frag} {Hf Hf' H H' : Hp} {a : Addr} {o : O} (h : OwnAt K Hf H a o) (e : Same Hf Hf') (k : ∀ u, H a = some u → H' a = some u) : OwnAt K Hf' H' a o := by
  cases o with
  | lst ds =>
    obtain ⟨vs, h1, h2⟩ := h
    exact ⟨vs, k _ h1, h2.mono e⟩
  | dic ds =>
    obtain ⟨vs, h1, h2⟩ := h
    exact ⟨vs, k _ h1, h2.mono e⟩
  | ins c ds =>
    obtain ⟨C, dx, vs, h0, h1, h2⟩ := h
    exact ⟨C, dx, vs, h0, k _ h1, h2.mono e⟩
theorem OwnAt.rep {K : PySem.W.Frag} {Hf H H' : Hp} {a : Addr} {o : O} (h : OwnAt K Hf H a o) (e : Same Hf H') (k : ∀ u, H a = some u → H' a = some u) : Rep K H' (.ref a) o.d := by
  cases o with
  | lst ds =>
    obtain ⟨vs, h1, h2⟩ := h
    exact .lst (k _ h1) (h2.mono e)
  | dic ds =>
    obtain ⟨vs, h1, h2⟩ := h
    exact .dic (.inl (k _ h1)) (h2.mono e)
  | ins c ds =>
    obtain ⟨C, dx, vs, h0, h1, h2⟩ := h
    exact .ins h0 (k _ h1) (h2.mono e)
theorem OwnAt.there {K : PySem.W.Frag} {Hf H : Hp} {a : Addr} {o : O} (h : OwnAt K Hf H a o) : ∃ u, H a = some u := by
  cases o with
  | lst ds => obtain ⟨vs, h1, _⟩ := h; exact ⟨_, h1⟩
  | dic ds => obtain ⟨vs, h1, _⟩ := h; exact ⟨_, h1⟩
  | ins c ds => obtain ⟨C, dx, vs, h0, h1, _⟩ := h; exact ⟨_, h1⟩

/-! ### soundness of a reading over data -/
abbrev DE := Ev → (D → Ev → Prop) → Prop
abbrev DO := Ev → (B → Ev → Prop) → Prop
abbrev DT := Ev → (Bool → Ev → Prop) → Prop
abbrev DA := Ev → (List D → Ev → Prop) → Prop
/-- an exception: its class by name, its fields -/
structure Xc where
  c : Str
  fs : List (Str × D)
def XdAt (K : PySem.W.Frag) (Hf : Hp) (dd : Option Addr) (fs : List (Str × D)) : Prop := match dd with
  | some d => ∃ vfs, Hf d = some (.xd vfs) ∧ RepF K Hf vfs fs
  | none => fs = []
theorem XdAt.mono {K : PySem.W.Frag} {Hf Hf' : Hp} {dd : Option Addr} {fs : List (Str × D)} (h : XdAt K Hf dd fs) (e : Same Hf Hf') : XdAt K Hf' dd fs := by
  cases dd with
  | none => exact h
  | some d =>
    obtain ⟨v, h1, h2⟩ := h
    exact ⟨v, e _ _ h1, h2.mono e⟩
/-- the names of the module, what is wished of an exception -/
structure Wm where
  mg : Str → Option Value
  W : WX
structure En where
  nx : Ev → Prop
  rt : B → Option Sto → Prop
  bk : Ev → Prop
  ct : Ev → Prop
  ex : Xc → Ev → Prop
abbrev DS := En → Ev → Prop

/-- frozen -/
def SE (K : PySem.W.Frag) (t : TE) (T : DE) : Prop := ∀ y Hf aS Γ σ H Φ Q, At K y Hf aS Γ σ H → T Γ Φ →
  (∀ d Γ' v Hf' H', At K y Hf' aS Γ' σ H' → Same Hf Hf' → Keep aS H H' → Rep K Hf' v d → Φ d Γ' → Q v H') → t σ H Q
/-- looked at alone: what is handed on may still change -/
def SP (K : PySem.W.Frag) (t : TE) (T : DE) : Prop := ∀ y Hf aS Γ σ H Φ Q, At K y Hf aS Γ σ H → T Γ Φ →
  (∀ d Γ' v Hf' H', At K y Hf' aS Γ' σ H' → Same Hf Hf' → Keep aS H H' → Rep K (hid aS H') v d → Φ d Γ' → Q v H') → t σ H Q
def Apart (v : V) (r : B) (Γ : Ev) (σ : L2.St) : Prop := match r with
  | .own _ => ∀ (i : Nat) (o : O), Γ.all[i]? = some (some (B.own o)) → (Γ.vals σ)[i]? ≠ some (some v)
  | _ => True
/-- as it comes: new objects are one's own -/
def SO (K : PySem.W.Frag) (t : TE) (T : DO) : Prop := ∀ y Hf aS Γ σ H Φ Q, At K y Hf aS Γ σ H → T Γ Φ →
  (∀ r Γ' v Hf' H', At K y Hf' aS Γ' σ H' → Same Hf Hf' → Keep aS H H' → BAt K y Hf' aS H' v r → Apart v r Γ' σ → Φ r Γ' → Q v H') → t σ H Q
def ST (K : PySem.W.Frag) (t : TT) (T : DT) : Prop := ∀ y Hf aS Γ σ H Φ Q, At K y Hf aS Γ σ H → T Γ Φ →
  (∀ b Γ' Hf' H', At K y Hf' aS Γ' σ H' → Same Hf Hf' → Keep aS H H' → Φ b Γ' → Q b H') → t σ H Q
def SA (K : PySem.W.Frag) (t : TA) (T : DA) : Prop := ∀ y Hf aS Γ σ H Φ Q, At K y Hf aS Γ σ H → T Γ Φ →
  (∀ ds Γ' vs Hf' H', At K y Hf' aS Γ' σ H' → Same Hf Hf' → Keep aS H H' → RepL K Hf' vs ds → Φ ds Γ' → Q vs H') → t σ H Q
def SAP (K : PySem.W.Frag) (t : TA) (T : DA) : Prop := ∀ y Hf aS Γ σ H Φ Q, At K y Hf aS Γ σ H → T Γ Φ →
  (∀ ds Γ' vs Hf' H', At K y Hf' aS Γ' σ H' → Same Hf Hf' → Keep aS H H' → RepL K (hid aS H') vs ds → Φ ds Γ' → Q vs H') → t σ H Q
structure Link (K : PySem.W.Frag) (ω : Wm) (y : Yn) (De : En) (Dn : Ends) : Prop where
  nx : ∀ Hf aS Γ σ H, At K y Hf aS Γ σ H → De.nx Γ → Dn.nx σ H
  rt : ∀ Hf aS S H v r, Co y Hf aS S H → BAt K y Hf aS H v r → De.rt r S → Dn.rt v H
  bk : ∀ Hf aS Γ σ H, At K y Hf aS Γ σ H → De.bk Γ → Dn.bk σ H
  ct : ∀ Hf aS Γ σ H, At K y Hf aS Γ σ H → De.ct Γ → Dn.ct σ H
  ex : ∀ Hf aS Γ σ H x C dd, At K y Hf aS Γ σ H → ω.mg x.c = some (.ref C) → XdAt K Hf dd x.fs → De.ex x Γ → ω.W (.ref C) dd σ H
def SS (K : PySem.W.Frag) (ω : Wm) (t : TS) (T : DS) : Prop := ∀ y Hf aS Γ σ H De Dn, At K y Hf aS Γ σ H → T De Γ → Link K ω y De Dn → t Dn σ H

structure PDE (X : Cx) (e : Expr) (t : TE) (T : DE) : Prop where
  p : PE X e t
  s : SE X.K t T
structure PDP (X : Cx) (e : Expr) (t : TE) (T : DE) : Prop where
  p : PE X e t
  s : SP X.K t T
structure PDO (X : Cx) (e : Expr) (t : TE) (T : DO) : Prop where
  p : PE X e t
  s : SO X.K t T
structure PDT (X : Cx) (e : Expr) (t : TT) (T : DT) : Prop where
  p : PT X e t
  s : ST X.K t T
structure PDW (X : Cx) (e : Expr) (t : TT) (T : DT) : Prop where
  p : PW X e t
  s : ST X.K t T
structure PDA (X : Cx) (es : List Expr) (t : TA) (T : DA) : Prop where
  p : PA X es t
  s : SA X.K t T
structure PDAP (X : Cx) (es : List Expr) (t : TA) (T : DA) : Prop where
  p : PA X es t
  s : SAP X.K t T
structure PDS (X : Cx) (W : WX) (st : Stmt) (t : TS) (T : DS) : Prop where
  p : PS X st t
  s : SS X.K ⟨X.mg, W⟩ t T
structure PDSs (X : Cx) (W : WX) (st : List Stmt) (t : TS) (T : DS) : Prop where
  p : PSs X st t
  s : SS X.K ⟨X.mg, W⟩ t T
/-- nothing is let out -/
abbrev W0 : WX := fun _ _ _ _ => False

/-! ### lemmas about the state -/
section
variable {K : PySem.W.Frag} {y : Yn} {Hf Hf' : Hp} {aS : Option Addr} {Γ : Ev} {σ : L2.St} {H H' : Hp} {S : Option Sto} {v : V} {d : D} {r : B}
theorem Co.old (c : Co y Hf aS S H) {a : Addr} (h : H a = none) : y.H0 a = none := by
  cases e : y.H0 a with
  | none => rfl
  | some o =>
    by_cases n : y.a0 = some a
    · rcases c.st0 with z | z
      · rw [z] at n
        cases n
      · obtain ⟨_, u, hu⟩ := c.sto.none (z.symm.trans n)
        rw [h] at hu
        cases hu
    · have := c.kept a o e n
      rw [h] at this
      cases this
theorem Co.frzn (c : Co y Hf aS S H) {a : Addr} (h : H a = none) : Hf a = none := by
  cases e : Hf a with
  | none => rfl
  | some o =>
    have := c.frz a o e
    rw [h] at this
    cases this
theorem Co.sne (c : Co y Hf aS S H) {a : Addr} (h : H a = none) : aS ≠ some a := fun e => by
  obtain ⟨_, u, hu⟩ := c.sto.none e
  rw [h] at hu
  cases hu
theorem BAt.mono {b : B} (h : BAt K y Hf aS H v b) (e : Same Hf Hf') (k : Keep aS H H') (hn : ∀ a, y.H0 a = none → Hf a = none → (∃ u, H a = some u) → Hf' a = none) : BAt K y Hf' aS H' v b := by
  cases b with
  | fro d => exact Rep.mono e h
  | own o =>
    obtain ⟨a, e1, h1, h2, h3, h4⟩ := h
    exact ⟨a, e1, h1.mono e fun u hu => k a u hu h4, hn a h3 h2 h1.there, h3, h4⟩
  | sto => exact h
  | lk d => exact h.imp (fun h => h.mono e) fun ⟨a, o, e1, e2, h1, h2⟩ => ⟨a, o, e1, e2, h1.mono e fun u hu => hu, h2⟩
/-- a new object is laid: frozen -/
theorem At.lay (A : At K y Hf aS Γ σ H) {p : Addr} {o : HO} (hp : H p = none) : At K y (upd Hf p o) aS Γ σ (upd H p o) := by
  have c := A.co
  have hfp := c.frzn hp
  have hs : aS ≠ some p := c.sne hp
  have e1 : Same H (upd H p o) := fun a u h => by rw [upd_ne (ne_of_none h hp)]; exact h
  have e2 : Same Hf (upd Hf p o) := fun a u h => by rw [upd_ne (ne_of_none h hfp)]; exact h
  refine ⟨⟨fun a u h n => e1 a u (c.kept a u h n), fun a u h => ?_, fun a u h => e2 a u (c.mon a u h), fun a u h => ?_, ?_, c.st0, c.s00⟩, ⟨A.sl.len, fun i b h => ?_, A.sl.sep⟩⟩
  · by_cases ha : a = p
    · subst ha; rw [upd_same] at h ⊢; exact h
    · rw [upd_ne ha] at h ⊢; exact c.frz a u h
  · by_cases ha : a = p
    · subst ha; exact .inr (c.old hp)
    · rw [upd_ne ha] at h; exact c.new a u h
  · have q := c.sto
    revert q
    cases aS with
    | none => cases Γ.S <;> exact id
    | some a =>
      cases Γ.S with
      | none => exact id
      | some S =>
        rintro ⟨⟨cc, h1, h2⟩, h3⟩
        have na : a ≠ p := fun e => hs (by rw [e])
        exact ⟨⟨cc, e1 _ _ h1, e2 _ _ h2⟩, by rw [upd_ne na]; exact h3⟩
  · obtain ⟨v, hv, hb⟩ := A.sl.slot i b h
    refine ⟨v, hv, hb.mono e2 (.of_same e1) fun a _ hfa hu => ?_⟩
    obtain ⟨u, hu⟩ := hu
    rw [upd_ne (ne_of_none hu hp)]
    exact hfa
theorem At.layK {p : Addr} {o : HO} (A : At K y Hf aS Γ σ H) (hp : H p = none) : Same Hf (upd Hf p o) ∧ Keep aS H (upd H p o) := by
  have hfp := A.co.frzn hp
  exact ⟨fun a u h => by rw [upd_ne (ne_of_none h hfp)]; exact h, fun a u h _ => by rw [upd_ne (ne_of_none h hp)]; exact h⟩
/-- a new object is laid: one's own -/
theorem At.layO (A : At K y Hf aS Γ σ H) {p : Addr} {o : HO} (hp : H p = none) : At K y Hf aS Γ σ (upd H p o) := by
  have c := A.co
  have hfp := c.frzn hp
  have hs : aS ≠ some p := c.sne hp
  have e1 : Same H (upd H p o) := fun a u h => by rw [upd_ne (ne_of_none h hp)]; exact h
  refine ⟨⟨fun a u h n => e1 a u (c.kept a u h n), fun a u h => e1 a u (c.frz a u h), c.mon, c.new, ?_, c.st0, c.s00⟩, ⟨A.sl.len, fun i b h => ?_, A.sl.sep⟩⟩
  · have q := c.sto
    revert q
    cases aS with
    | none => cases Γ.S <;> exact id
    | some a =>
      cases Γ.S with
      | none => exact id
      | some S =>
        rintro ⟨⟨cc, h1, h2⟩, h3⟩
        exact ⟨⟨cc, e1 _ _ h1, h2⟩, h3⟩
  · obtain ⟨v, hv, hb⟩ := A.sl.slot i b h
    exact ⟨v, hv, hb.mono (Same.refl _) (.of_same e1) fun a _ hfa _ => hfa⟩
/-- a new own object stands apart from the slots -/
theorem At.apart (A : At K y Hf aS Γ σ H) {p : Addr} {o : O} (hp : H p = none) : Apart (.ref p) (.own o) Γ σ := fun i u hi hv => by
  obtain ⟨v, e, a, e1, h1, _⟩ := A.sl.slot i _ hi
  obtain ⟨w, hw⟩ := h1.there
  rw [e] at hv
  have := Option.some.inj (Option.some.inj hv)
  subst this
  have e2 := V.ref.inj e1
  subst e2
  rw [hp] at hw
  cases hw
/-- an own object is frozen -/
theorem At.freeze (A : At K y Hf aS Γ σ H) {p : Addr} {o : O} (hp : OwnAt K Hf H p o) (hf : Hf p = none) (h0 : y.H0 p = none) (hs : aS ≠ some p) (ha : ∀ (i : Nat) (u : O), Γ.all[i]? = some (some (B.own u)) → (Γ.vals σ)[i]? ≠ some (some (V.ref p))) :
    ∃ Hf', At K y Hf' aS Γ σ H ∧ Same Hf Hf' ∧ Rep K Hf' (.ref p) o.d := by
  have c := A.co
  obtain ⟨u, hu⟩ := hp.there
  have e2 : Same Hf (upd Hf p u) := fun a w h => by rw [upd_ne (ne_of_none h hf)]; exact h
  refine ⟨upd Hf p u, ⟨⟨c.kept, fun a w h => ?_, fun a w h => e2 a w (c.mon a w h), fun a w h => ?_, ?_, c.st0, c.s00⟩, ⟨A.sl.len, fun i b h => ?_, A.sl.sep⟩⟩, e2, hp.rep e2 fun w hw => ?_⟩
  · by_cases hap : a = p
    · subst hap; rw [upd_same] at h; rw [← h]; exact hu
    · rw [upd_ne hap] at h; exact c.frz a w h
  · by_cases hap : a = p
    · subst hap; exact .inr h0
    · rw [upd_ne hap] at h; exact c.new a w h
  · have q := c.sto
    revert q
    cases aS with
    | none => cases Γ.S <;> exact id
    | some a =>
      cases Γ.S with
      | none => exact id
      | some S =>
        rintro ⟨⟨cc, h1, h2⟩, h3⟩
        have na : a ≠ p := fun e => hs (by rw [e])
        exact ⟨⟨cc, h1, e2 _ _ h2⟩, by rw [upd_ne na]; exact h3⟩
  · obtain ⟨v, hv, hb⟩ := A.sl.slot i b h
    refine ⟨v, hv, ?_⟩
    cases b with
    | fro d => exact Rep.mono e2 hb
    | sto => exact hb
    | lk d => exact hb.imp (fun h => h.mono e2) fun ⟨a, o, e1, e3, h1, h2⟩ => ⟨a, o, e1, e3, h1.mono e2 fun u hu => hu, h2⟩
    | own o' =>
      obtain ⟨a, e1, h1, h2, h3, h4⟩ := hb
      have na : a ≠ p := fun e => ha i o' h (by rw [hv, e1, e])
      exact ⟨a, e1, h1.mono e2 fun u hu => hu, by rw [upd_ne na]; exact h2, h3, h4⟩
  · rw [upd_same, ← hu, hw]
theorem all_len {Γ : Ev} {σ : L2.St} (h : (Γ.vals σ).length = Γ.all.length) : σ.length = Γ.sl.length := by
  have e := hp_len Γ.hp.l
  rw [List.length_append, List.length_append] at h
  omega
theorem At.len (A : At K y Hf aS Γ σ H) : σ.length = Γ.sl.length := all_len A.sl.len
theorem Ev.at_ {Γ : Ev} {i : Nat} {b : Option B} (h : Γ.sl[i]? = some b) : Γ.all[i]? = some b := by
  rw [List.getElem?_append_left (List.getElem?_eq_some_iff.mp h).1]
  exact h
theorem At.val (A : At K y Hf aS Γ σ H) {i : Nat} (h : i < Γ.sl.length) : (Γ.vals σ)[i]? = σ[i]? := List.getElem?_append_left (by rw [A.len]; exact h)
theorem At.slot (A : At K y Hf aS Γ σ H) (i : Nat) (b : B) (h : Γ.sl[i]? = some (some b)) : ∃ v, σ[i]? = some (some v) ∧ BAt K y Hf aS H v b := by
  obtain ⟨v, h1, h2⟩ := A.sl.slot i b (Ev.at_ h)
  rw [A.val (List.getElem?_eq_some_iff.mp h).1] at h1
  exact ⟨v, h1, h2⟩
theorem At.sep (A : At K y Hf aS Γ σ H) (i j : Nat) (a : Addr) (oi oj : O) (h1 : Γ.sl[i]? = some (some (B.own oi))) (h2 : Γ.sl[j]? = some (some (B.own oj))) (g1 : σ[i]? = some (some (V.ref a))) (g2 : σ[j]? = some (some (V.ref a))) : i = j := by
  refine A.sl.sep i j a oi oj (Ev.at_ h1) (Ev.at_ h2) ?_ ?_
  · rw [A.val (List.getElem?_eq_some_iff.mp h1).1]; exact g1
  · rw [A.val (List.getElem?_eq_some_iff.mp h2).1]; exact g2
/-- the same objects by their addresses, the slots changed -/
theorem At.mk2 (len : σ.length = Γ.sl.length) (co : Co y Hf aS Γ.S H) (slot : ∀ (i : Nat) (b : B), Γ.sl[i]? = some (some b) → ∃ v, σ[i]? = some (some v) ∧ BAt K y Hf aS H v b)
    (sep : ∀ (i j : Nat) (a : Addr) (oi oj : O), Γ.sl[i]? = some (some (B.own oi)) → Γ.sl[j]? = some (some (B.own oj)) → σ[i]? = some (some (V.ref a)) → σ[j]? = some (some (V.ref a)) → i = j) (hn : Γ.hp.l = []) : At K y Hf aS Γ σ H := by
  have e1 : Γ.all = Γ.sl := by unfold Ev.all hpS; rw [hn]; exact List.append_nil _
  have e2 : Γ.vals σ = σ := by unfold Ev.vals hpV; rw [hn]; exact List.append_nil _
  refine ⟨co, ?_⟩
  rw [e1, e2]
  exact ⟨len, slot, sep⟩
/-- less is said of the slots -/
theorem all_less {sl : List (Option B)} {S' : Option Sto} (hl : sl.length = Γ.sl.length) (h : ∀ (i : Nat) (b : B), sl[i]? = some (some b) → Γ.sl[i]? = some (some b)) {i : Nat} {b : B} (e : (Γ.w sl S').all[i]? = some (some b)) : Γ.all[i]? = some (some b) := by
  by_cases hi : i < sl.length
  · rw [List.getElem?_append_left hi] at e
    exact Ev.at_ (h i b e)
  · rw [List.getElem?_append_right (show sl.length ≤ i by omega)] at e
    rw [List.getElem?_append_right (by omega)]
    have e : (hpS Γ.hp.l)[i - sl.length]? = some (some b) := e
    rw [hl] at e
    exact e
theorem At.less (A : At K y Hf aS Γ σ H) {sl : List (Option B)} (hl : sl.length = Γ.sl.length) (h : ∀ (i : Nat) (b : B), sl[i]? = some (some b) → Γ.sl[i]? = some (some b)) : At K y Hf aS (Γ.w sl Γ.S) σ H :=
  ⟨A.co, ⟨A.sl.len.trans (by rw [List.length_append, List.length_append]; show Γ.sl.length + _ = sl.length + _; rw [hl]), fun i b e => A.sl.slot i b (all_less hl h e), fun i j a oi oj e1 e2 => A.sl.sep i j a oi oj (all_less hl h e1) (all_less hl h e2)⟩⟩
theorem get_set_some {α : Type} {l : List α} {i j : Nat} {a b : α} (h : (l.set i a)[j]? = some b) : (i = j ∧ a = b) ∨ (i ≠ j ∧ l[j]? = some b) := by
  by_cases e : i = j
  · subst e
    by_cases hi : i < l.length
    · rw [List.getElem?_set_self hi] at h
      exact .inl ⟨rfl, Option.some.inj h⟩
    · rw [List.getElem?_eq_none (by rw [List.length_set]; omega)] at h
      cases h
  · rw [List.getElem?_set_ne e] at h
    exact .inr ⟨e, h⟩
theorem At.drop (A : At K y Hf aS Γ σ H) (i : Nat) : At K y Hf aS (Γ.drop i) σ H :=
  A.less (by rw [List.length_set]) fun j b h => by
    rcases get_set_some h with ⟨_, e⟩ | ⟨_, e⟩
    · cases e
    · exact e
theorem Sl.store {sl : List (Option B)} (A : Sl K y Hf aS sl σ H) {i : Nat} (h : BAt K y Hf aS H v r) (ha : ∀ o, r = .own o → ∀ (i : Nat) (o : O), sl[i]? = some (some (B.own o)) → σ[i]? ≠ some (some v)) : Sl K y Hf aS (sl.set i (some r)) (σ.set i (some v)) H := by
  refine ⟨by rw [List.length_set, List.length_set]; exact A.len, fun j b e => ?_, fun j k a oj ok e1 e2 h1 h2 => ?_⟩
  · rcases get_set_some e with ⟨hij, q⟩ | ⟨n, q⟩
    · subst hij
      have q := Option.some.inj q
      subst q
      have hi : i < σ.length := by
        rw [A.len]
        by_cases hi : i < sl.length
        · exact hi
        · have e' : (sl.set i (some r))[i]? = some (some r) := e
          rw [List.getElem?_eq_none (by rw [List.length_set]; omega)] at e'
          cases e'
      exact ⟨v, List.getElem?_set_self hi, h⟩
    · rw [List.getElem?_set_ne n]
      exact A.slot j b q
  · rcases get_set_some e1 with ⟨hij, q1⟩ | ⟨n1, q1⟩
    · subst hij
      rcases get_set_some e2 with ⟨hik, q2⟩ | ⟨n2, q2⟩
      · exact hik
      · have q1 := Option.some.inj q1
        subst q1
        rcases get_set_some h1 with ⟨_, h1⟩ | ⟨n, _⟩
        · rw [List.getElem?_set_ne n2] at h2
          rw [← h1] at h2
          exact absurd h2 (ha _ rfl k _ q2)
        · exact absurd rfl n
    · rcases get_set_some e2 with ⟨hik, q2⟩ | ⟨n2, q2⟩
      · subst hik
        have q2 := Option.some.inj q2
        subst q2
        rcases get_set_some h2 with ⟨_, h2⟩ | ⟨n, _⟩
        · rw [List.getElem?_set_ne n1] at h1
          rw [← h2] at h1
          exact absurd h1 (ha _ rfl j _ q1)
        · exact absurd rfl n
      · rw [List.getElem?_set_ne n1] at h1
        rw [List.getElem?_set_ne n2] at h2
        exact A.sep j k a oj ok q1 q2 h1 h2
/-- a slot is stored -/
theorem At.store (A : At K y Hf aS Γ σ H) {i : Nat} (h : BAt K y Hf aS H v r) (ha : Apart v r Γ σ) : At K y Hf aS (Γ.set i r) (σ.set i (some v)) H := by
  by_cases hi : i < Γ.sl.length
  · have e1 : (Γ.set i r).all = Γ.all.set i (some r) := (List.set_append_left i _ hi).symm
    have e2 : (Γ.set i r).vals (σ.set i (some v)) = (Γ.vals σ).set i (some v) := (List.set_append_left i _ (by rw [A.len]; exact hi)).symm
    refine ⟨A.co, ?_⟩
    rw [e1, e2]
    exact A.sl.store h fun o e => by subst e; exact ha
  · have e1 : Γ.set i r = Γ := by
      show @Ev.mk (Γ.sl.set i (some r)) Γ.S Γ.hp = Γ
      rw [List.set_eq_of_length_le (by omega)]
    have e2 : σ.set i (some v) = σ := List.set_eq_of_length_le (by rw [A.len]; omega)
    rw [e1, e2]
    exact A
/-- the entry is set anew: the own objects are out of sight -/
def froB : Option B → Option B
  | some (.own _) => none
  | b => b
def Ev.fr (Γ : Ev) : Ev := ⟨Γ.sl.map froB, Γ.S⟩
theorem fr_get {sl : List (Option B)} {i : Nat} {b : B} (h : (sl.map froB)[i]? = some (some b)) : sl[i]? = some (some b) ∧ ∀ o : O, b ≠ B.own o := by
  rw [List.getElem?_map] at h
  cases e : sl[i]? with
  | none => rw [e] at h; cases h
  | some c =>
    rw [e] at h
    cases c with
    | none => cases Option.some.inj h
    | some c =>
      cases c with
      | fro d => have h := Option.some.inj (Option.some.inj h); subst h; exact ⟨rfl, fun o z => nomatch z⟩
      | own o => cases Option.some.inj h
      | sto => have h := Option.some.inj (Option.some.inj h); subst h; exact ⟨rfl, fun o z => nomatch z⟩
      | lk d => have h := Option.some.inj (Option.some.inj h); subst h; exact ⟨rfl, fun o z => nomatch z⟩
/-- what was there at the entry is there -/
theorem Co.was (c : Co y Hf aS S H) {a : Addr} {o : HO} (h : y.H0 a = some o) (n : y.a0 ≠ some a) : H a = some o ∧ aS ≠ some a := by
  refine ⟨c.kept a o h n, fun e => ?_⟩
  rcases c.st0 with z | z
  · have := c.s00 a e z
    rw [h] at this
    cases this
  · exact n (z.trans e)
theorem BAt.lk_re (c : Co y Hf aS S H) (h : BAt K y Hf aS H v (.lk d)) : BAt K ⟨H, Hf, aS⟩ Hf aS H v (.lk d) := by
  rcases h with h | ⟨a, o, e1, e2, h1, h2⟩
  · exact .inl h
  · obtain ⟨u, hu⟩ := h1.there
    have q := c.was hu h2
    exact .inr ⟨a, o, e1, e2, h1.mono (Same.refl _) fun w hw => by rw [hu] at hw; rw [← hw]; exact q.1, q.2⟩
theorem At.rebase (A : At K y Hf aS Γ σ H) : At K ⟨H, Hf, aS⟩ Hf aS Γ.fr σ H := by
  have c := A.co
  refine At.mk2 (Γ := Γ.fr) (by rw [A.len]; exact (List.length_map _).symm) ⟨fun a o h _ => h, c.frz, Same.refl _, fun a o h => .inl ⟨o, h⟩, c.sto, .inr rfl, fun a e n => ?_⟩ (fun i b h => ?_) (fun i j a oi oj h1 _ _ _ => ?_) rfl
  · have n' : aS = none := n
    rw [n'] at e
    cases e
  · obtain ⟨h, n⟩ := fr_get h
    obtain ⟨v, hv, hb⟩ := A.slot i b h
    refine ⟨v, hv, ?_⟩
    cases b with
    | fro d => exact hb
    | own o => exact absurd rfl (n o)
    | sto => exact hb
    | lk d => exact hb.lk_re c
  · exact absurd rfl ((fr_get h1).2 oi)
/-- and back: the core -/
theorem Co.back (c : Co y Hf aS S H) {S' : Option Sto} (c' : Co ⟨H, Hf, aS⟩ Hf' aS S' H') : Co y Hf' aS S' H' := by
  refine ⟨fun a o h n => ?_, c'.frz, fun a o h => c'.mon a o (c.mon a o h), fun a o h => ?_, c'.sto, c.st0, c.s00⟩
  · have h1 := c.kept a o h n
    refine c'.kept a o h1 fun e => ?_
    have e : aS = some a := e
    rcases c.st0 with z | z
    · have := c.s00 a e z
      rw [this] at h
      cases h
    · exact n (z.trans e)
  · rcases c'.new a o h with ⟨u, hu⟩ | h
    · exact c.new a u hu
    · exact .inr (c.old h)
theorem BAt.back (c : Co y Hf aS S H) {b : B} (nl : ∀ d, b ≠ .lk d) (h : BAt K ⟨H, Hf, aS⟩ Hf' aS H' v b) : BAt K y Hf' aS H' v b := by
  cases b with
  | fro d => exact h
  | sto => exact h
  | own o =>
    obtain ⟨a, e1, h1, h2, h3, h4⟩ := h
    exact ⟨a, e1, h1, h2, c.old h3, h4⟩
  | lk d => exact absurd rfl (nl d)
/-- behind something that kept the heap (but for the store) and froze new objects alone -/
theorem At.behind (A : At K y Hf aS Γ σ H) {S' : Option Sto} (c' : Co ⟨H, Hf, aS⟩ Hf' aS S' H') : At K y Hf' aS (Γ.w Γ.sl S') σ H' := by
  have c := A.co
  have k : Keep aS H H' := fun a o h n => c'.kept a o h n
  refine ⟨c.back c', ⟨A.sl.len, fun i b h => ?_, A.sl.sep⟩⟩
  obtain ⟨v, hv, hb⟩ := A.sl.slot i b h
  refine ⟨v, hv, hb.mono c'.mon k fun a h0 hfa hu => ?_⟩
  cases e : Hf' a with
  | none => rfl
  | some o =>
    rcases c'.new a o e with ⟨u, hu⟩ | hn
    · have hu : Hf a = some u := hu
      rw [hfa] at hu
      cases hu
    · obtain ⟨u, hu⟩ := hu
      have hn : H a = none := hn
      rw [hn] at hu
      cases hu
theorem Co.keep (c' : Co ⟨H, Hf, aS⟩ Hf' aS S H') : Keep aS H H' := fun a o h n => c'.kept a o h n
end

end
section
/-! DL1: the rules over data: names, constants, operators, comparisons, items, slices, displays, calls, statements. -/

section
variable {K : PySem.W.Frag} {y : Yn} {Hf Hf' : Hp} {aS : Option Addr} {Γ : Ev} {σ : L2.St} {H H' : Hp} {S : Option Sto} {v : V} {d : D} {r : B}

/-! ### what is looked at -/
def PRep (K : PySem.W.Frag) (Hf : Hp) (aS : Option Addr) (H : Hp) (v : V) (d : D) : Prop :=
  Rep K Hf v d ∨ ∃ a o, v = .ref a ∧ d = o.d ∧ OwnAt K Hf H a o ∧ aS ≠ some a
def SQ (K : PySem.W.Frag) (t : TE) (T : DE) : Prop := ∀ y Hf aS Γ σ H Φ Q, At K y Hf aS Γ σ H → T Γ Φ →
  (∀ d Γ' v Hf' H', At K y Hf' aS Γ' σ H' → Same Hf Hf' → Keep aS H H' → PRep K Hf' aS H' v d → Φ d Γ' → Q v H') → t σ H Q
theorem PRep.mono (h : PRep K Hf aS H v d) (e : Same Hf Hf') (k : Keep aS H H') : PRep K Hf' aS H' v d := by
  rcases h with h | ⟨a, o, e1, e2, h, n⟩
  · exact .inl (h.mono e)
  · exact .inr ⟨a, o, e1, e2, h.mono e fun u hu => k a u hu n, n⟩
theorem PRep.hid (c : Co y Hf aS S H) (h : PRep K Hf aS H v d) : Rep K (hid aS H) v d := by
  rcases h with h | ⟨a, o, rfl, rfl, h, n⟩
  · exact h.mono c.shid
  · exact h.rep c.shid fun u hu => by rw [hid_ne n]; exact hu
structure PDQ (X : Cx) (e : Expr) (t : TE) (T : DE) : Prop where
  p : PE X e t
  s : SQ X.K t T
theorem SE.q {t : TE} {T : DE} (h : SE K t T) : SQ K t T := fun y Hf aS Γ σ H Φ Q A hT k => h y Hf aS Γ σ H Φ Q A hT fun d Γ' v Hf' H' A' e q r => k d Γ' v Hf' H' A' e q (.inl r)
theorem PDE.q {X : Cx} {e : Expr} {t : TE} {T : DE} (h : PDE X e t T) : PDQ X e t T := ⟨h.p, h.s.q⟩

/-! ### names and constants -/
def dVar (i : Nat) : DE := fun Γ Φ => match Γ.sl[i]? with
  | some (some (.fro d)) => Φ d Γ
  | some (some (.own o)) => Φ o.d (Γ.set i (.fro o.d))
  | some (some (.lk d)) => d.sca = true ∧ Φ d Γ
  | _ => False
def dVarQ (i : Nat) : DE := fun Γ Φ => match Γ.sl[i]? with
  | some (some (.fro d)) => Φ d Γ
  | some (some (.own o)) => Φ o.d Γ
  | some (some (.lk d)) => Φ d Γ
  | _ => False
def dMove (i : Nat) : DO := fun Γ Φ => match Γ.sl[i]? with
  | some (some (.fro d)) => Φ (.fro d) Γ
  | some (some (.own o)) => Φ (.own o) (Γ.drop i)
  | some (some .sto) => Φ .sto Γ
  | some (some (.lk d)) => d.sca = true ∧ Φ (.fro d) Γ
  | _ => False
theorem set_same {α : Type} : ∀ {l : List α} {i : Nat} {a : α}, l[i]? = some a → l.set i a = l
  | [], _, _, h => by simp at h
  | b :: l, 0, a, h => by
    have := Option.some.inj h
    subst this
    rfl
  | b :: l, i + 1, a, h => by
    rw [List.set_cons_succ, set_same (l := l) h]
/-- an own slot, dropped, stands apart from the rest -/
theorem At.apart_drop (A : At K y Hf aS Γ σ H) {i : Nat} {a : Addr} {o : O} (e : Γ.sl[i]? = some (some (.own o))) (hv : σ[i]? = some (some (V.ref a))) :
    ∀ (j : Nat) (u : O), (Γ.drop i).all[j]? = some (some (B.own u)) → ((Γ.drop i).vals σ)[j]? ≠ some (some (V.ref a)) := fun j u hj hσ => by
  have hi := (List.getElem?_eq_some_iff.mp e).1
  have e1 : (Γ.drop i).all = Γ.all.set i none := (List.set_append_left i _ hi).symm
  rw [e1] at hj
  rcases get_set_some hj with ⟨_, z⟩ | ⟨n, z⟩
  · cases z
  · exact n (A.sl.sep i j a o u (Ev.at_ e) z (by rw [A.val hi]; exact hv) hσ)
theorem lk_sca (h : BAt K y Hf aS H v (.lk d)) (s : d.sca = true) : Rep K Hf v d := by
  rcases h with h | ⟨a, o, _, rfl, _, _⟩
  · exact h
  · cases o <;> cases s
theorem lk_prep (c : Co y Hf aS S H) (h : BAt K y Hf aS H v (.lk d)) : PRep K Hf aS H v d := by
  rcases h with h | ⟨a, o, e1, e2, h1, h2⟩
  · exact .inl h
  · obtain ⟨u, hu⟩ := h1.there
    have q := c.was hu h2
    exact .inr ⟨a, o, e1, e2, h1.mono (Same.refl _) fun w hw => by rw [hu] at hw; rw [← hw]; exact q.1, q.2⟩
theorem se_var (i : Nat) : SE K (tVar i) (dVar i) := by
  intro y Hf aS Γ σ H Φ Q A hT k
  unfold dVar at hT
  split at hT
  · rename_i d e
    obtain ⟨v, hv, hb⟩ := A.slot i _ e
    exact ⟨v, hv, k d Γ v Hf H A (Same.refl _) (Keep.refl _ _) hb hT⟩
  · rename_i o e
    obtain ⟨v, hv, a, rfl, h1, h2, h3, h4⟩ := A.slot i _ e
    have A1 := A.drop i
    obtain ⟨Hf', A2, e2, hr⟩ := A1.freeze h1 h2 h3 h4 (A.apart_drop e hv)
    have A3 := A2.store (i := i) (v := .ref a) (r := .fro o.d) hr trivial
    rw [set_same hv] at A3
    have e3 : (Γ.drop i).set i (.fro o.d) = Γ.set i (.fro o.d) := by
      show @Ev.mk _ _ Γ.hp = @Ev.mk _ _ Γ.hp
      rw [List.set_set]
    rw [e3] at A3
    exact ⟨.ref a, hv, k o.d _ _ Hf' H A3 e2 (Keep.refl _ _) hr hT⟩
  · rename_i d e
    obtain ⟨v, hv, hb⟩ := A.slot i _ e
    exact ⟨v, hv, k d Γ v Hf H A (Same.refl _) (Keep.refl _ _) (lk_sca hb hT.1) hT.2⟩
  · exact hT.elim
/-- slot i is frozen, if it is owned -/
def Ev.frzAt (Γ : Ev) (i : Nat) : Ev := match Γ.sl[i]? with
  | some (some (.own o)) => Γ.set i (.fro o.d)
  | _ => Γ
def Ev.frzAll (Γ : Ev) : List Nat → Ev
  | [] => Γ
  | i :: is => (Γ.frzAt i).frzAll is
theorem At.frz (A : At K y Hf aS Γ σ H) (i : Nat) : ∃ Hf', At K y Hf' aS (Γ.frzAt i) σ H ∧ Same Hf Hf' := by
  unfold Ev.frzAt
  split
  · rename_i o e
    obtain ⟨v, hv, a, rfl, h1, h2, h3, h4⟩ := A.slot i _ e
    have A1 := A.drop i
    obtain ⟨Hf', A2, e2, hr⟩ := A1.freeze h1 h2 h3 h4 (A.apart_drop e hv)
    have A3 := A2.store (i := i) (v := .ref a) (r := .fro o.d) hr trivial
    rw [set_same hv] at A3
    have e3 : (Γ.drop i).set i (.fro o.d) = Γ.set i (.fro o.d) := by
      show @Ev.mk _ _ Γ.hp = @Ev.mk _ _ Γ.hp
      rw [List.set_set]
    rw [e3] at A3
    exact ⟨Hf', A3, e2⟩
  · exact ⟨Hf, A, Same.refl _⟩
theorem At.frzs : ∀ (is : List Nat) {Hf : Hp} {Γ : Ev}, At K y Hf aS Γ σ H → ∃ Hf', At K y Hf' aS (Γ.frzAll is) σ H ∧ Same Hf Hf'
  | [], Hf, _, A => ⟨Hf, A, Same.refl _⟩
  | i :: is, Hf, Γ, A => by
    obtain ⟨Hf1, A1, e1⟩ := A.frz i
    obtain ⟨Hf2, A2, e2⟩ := At.frzs is A1
    exact ⟨Hf2, A2, e1.trans e2⟩
def dFrzO (is : List Nat) (T : DO) : DO := fun Γ Φ => T (Γ.frzAll is) Φ
def dFrzS (is : List Nat) (T : DS) : DS := fun De Γ => T De (Γ.frzAll is)
theorem so_frz (is : List Nat) {t : TE} {T : DO} (h : SO K t T) : SO K t (dFrzO is T) := fun y Hf aS Γ σ H Φ Q A hT k => by
  obtain ⟨Hf1, A1, e1⟩ := At.frzs is A
  exact h y Hf1 aS _ σ H Φ Q A1 hT fun r Γ' v Hf' H' A' e q hb ha hΦ => k r Γ' v Hf' H' A' (e1.trans e) q hb ha hΦ
theorem ss_frz (is : List Nat) {t : TS} {T : DS} (h : SS K ω t T) : SS K ω t (dFrzS is T) := fun y Hf aS Γ σ H De Dn A hT L => by
  obtain ⟨Hf1, A1, e1⟩ := At.frzs is A
  exact h y Hf1 aS _ σ H De Dn A1 hT L
theorem o_frz (is : List Nat) {X : Cx} {e : Expr} {t : TE} {T : DO} (h : PDO X e t T) : PDO X e t (dFrzO is T) := ⟨h.p, so_frz is h.s⟩
theorem s_frz (is : List Nat) {X : Cx} {e : Stmt} {t : TS} {T : DS} (h : PDS X ξ e t T) : PDS X ξ e t (dFrzS is T) := ⟨h.p, ss_frz is h.s⟩
theorem sq_var (i : Nat) : SQ K (tVar i) (dVarQ i) := by
  intro y Hf aS Γ σ H Φ Q A hT k
  unfold dVarQ at hT
  split at hT
  · rename_i d e
    obtain ⟨v, hv, hb⟩ := A.slot i _ e
    exact ⟨v, hv, k d Γ v Hf H A (Same.refl _) (Keep.refl _ _) (.inl hb) hT⟩
  · rename_i o e
    obtain ⟨v, hv, a, rfl, h1, h2, h3, h4⟩ := A.slot i _ e
    exact ⟨.ref a, hv, k o.d _ _ Hf H A (Same.refl _) (Keep.refl _ _) (.inr ⟨a, o, rfl, rfl, h1, h4⟩) hT⟩
  · rename_i d e
    obtain ⟨v, hv, hb⟩ := A.slot i _ e
    exact ⟨v, hv, k d Γ v Hf H A (Same.refl _) (Keep.refl _ _) (lk_prep A.co hb) hT⟩
  · exact hT.elim
theorem so_move (i : Nat) : SO K (tVar i) (dMove i) := by
  intro y Hf aS Γ σ H Φ Q A hT k
  unfold dMove at hT
  split at hT
  · rename_i d e
    obtain ⟨v, hv, hb⟩ := A.slot i _ e
    exact ⟨v, hv, k (.fro d) Γ v Hf H A (Same.refl _) (Keep.refl _ _) hb trivial hT⟩
  · rename_i o e
    obtain ⟨v, hv, a, rfl, h1, h2, h3, h4⟩ := A.slot i _ e
    exact ⟨.ref a, hv, k (.own o) _ _ Hf H (A.drop i) (Same.refl _) (Keep.refl _ _) ⟨a, rfl, h1, h2, h3, h4⟩ (A.apart_drop e hv) hT⟩
  · rename_i e
    obtain ⟨v, hv, hb⟩ := A.slot i _ e
    exact ⟨v, hv, k _ Γ v Hf H A (Same.refl _) (Keep.refl _ _) hb trivial hT⟩
  · rename_i d e
    obtain ⟨v, hv, hb⟩ := A.slot i _ e
    exact ⟨v, hv, k (.fro d) Γ v Hf H A (Same.refl _) (Keep.refl _ _) (show Rep K Hf v d from lk_sca hb hT.1) trivial hT.2⟩
  · exact hT.elim
def dC (d : D) : DE := fun Γ Φ => Φ d Γ
theorem se_c (h : ∀ H : Hp, Rep K H v d) : SE K (tC v) (dC d) := fun y Hf aS Γ σ H Φ Q A hT k => k d Γ v Hf H A (Same.refl _) (Keep.refl _ _) (h _) hT

/-! ### lifts -/
def dUp (T : DE) : DO := fun Γ Φ => T Γ fun d Γ' => Φ (.fro d) Γ'
def frzB (Φ : D → Ev → Prop) : B → Ev → Prop
  | .fro d, Γ => Φ d Γ
  | .own o, Γ => Φ o.d Γ
  | .sto, _ => False
  | .lk d, Γ => d.sca = true ∧ Φ d Γ
def dFz (T : DO) : DE := fun Γ Φ => T Γ (frzB Φ)
theorem SE.o {t : TE} {T : DE} (h : SE K t T) : SO K t (dUp T) := fun y Hf aS Γ σ H Φ Q A hT k => h y Hf aS Γ σ H _ Q A hT fun d Γ' v Hf' H' A' e q r hΦ => k (.fro d) Γ' v Hf' H' A' e q r trivial hΦ
theorem SO.e {t : TE} {T : DO} (h : SO K t T) : SE K t (dFz T) := fun y Hf aS Γ σ H Φ Q A hT k => h y Hf aS Γ σ H _ Q A hT fun r Γ' v Hf' H' A' e q hb ha hΦ => by
  cases r with
  | fro d => exact k d Γ' v Hf' H' A' e q hb hΦ
  | sto => exact hΦ.elim
  | lk d => exact k d Γ' v Hf' H' A' e q (lk_sca hb hΦ.1) hΦ.2
  | own o =>
    obtain ⟨a, rfl, h1, h2, h3, h4⟩ := hb
    obtain ⟨Hf'', A2, e2, hr⟩ := A'.freeze h1 h2 h3 h4 ha
    exact k o.d Γ' _ Hf'' H' A2 (e.trans e2) q hr hΦ

/-! ### arguments -/
def dNil : DA := fun Γ Φ => Φ [] Γ
def dCons (T : DE) (U : DA) : DA := fun Γ Φ => T Γ fun d Γ1 => U Γ1 fun ds Γ2 => Φ (d :: ds) Γ2
theorem sa_nil : SA K tNil dNil := fun y Hf aS Γ σ H Φ Q A hT k => k [] Γ [] Hf H A (Same.refl _) (Keep.refl _ _) .nil hT
theorem sa_cons {t : TE} {T : DE} {u : TA} {U : DA} (h : SE K t T) (g : SA K u U) : SA K (tCons t u) (dCons T U) := fun y Hf aS Γ σ H Φ Q A hT k =>
  h y Hf aS Γ σ H _ _ A hT fun d Γ1 v Hf1 H1 A1 e1 k1 r1 hT1 => g y Hf1 aS Γ1 σ H1 _ _ A1 hT1 fun ds Γ2 vs Hf2 H2 A2 e2 k2 r2 hΦ =>
    k (d :: ds) Γ2 (v :: vs) Hf2 H2 A2 (e1.trans e2) (k1.trans k2) (.cons (r1.mono e2) r2) hΦ
/-- looked at -/
inductive PRepL (K : PySem.W.Frag) (Hf : Hp) (aS : Option Addr) (H : Hp) : List V → List D → Prop
  | nil : PRepL K Hf aS H [] []
  | cons {v : V} {d : D} {vs : List V} {ds : List D} : PRep K Hf aS H v d → PRepL K Hf aS H vs ds → PRepL K Hf aS H (v :: vs) (d :: ds)
theorem PRepL.hid (c : Co y Hf aS S H) : ∀ {vs : List V} {ds : List D}, PRepL K Hf aS H vs ds → RepL K (hid aS H) vs ds
  | _, _, .nil => .nil
  | _, _, .cons h r => .cons (h.hid c) (PRepL.hid c r)
def SQA (K : PySem.W.Frag) (t : TA) (T : DA) : Prop := ∀ y Hf aS Γ σ H Φ Q, At K y Hf aS Γ σ H → T Γ Φ →
  (∀ ds Γ' vs Hf' H', At K y Hf' aS Γ' σ H' → Same Hf Hf' → Keep aS H H' → PRepL K Hf' aS H' vs ds → Φ ds Γ' → Q vs H') → t σ H Q
theorem sqa_nil : SQA K tNil dNil := fun y Hf aS Γ σ H Φ Q A hT k => k [] Γ [] Hf H A (Same.refl _) (Keep.refl _ _) .nil hT
theorem sqa_cons {t : TE} {T : DE} {u : TA} {U : DA} (h : SQ K t T) (g : SQA K u U) : SQA K (tCons t u) (dCons T U) := fun y Hf aS Γ σ H Φ Q A hT k =>
  h y Hf aS Γ σ H _ _ A hT fun d Γ1 v Hf1 H1 A1 e1 k1 r1 hT1 => g y Hf1 aS Γ1 σ H1 _ _ A1 hT1 fun ds Γ2 vs Hf2 H2 A2 e2 k2 r2 hΦ =>
    k (d :: ds) Γ2 (v :: vs) Hf2 H2 A2 (e1.trans e2) (k1.trans k2) (.cons (r1.mono e2 k2) r2) hΦ
structure PDQA (X : Cx) (es : List Expr) (t : TA) (T : DA) : Prop where
  p : PA X es t
  s : SQA X.K t T

/-! ### operators -/
/-- what an operation on values does, over data: operands looked at, the result as it comes -/
def Op2 (K : PySem.W.Frag) (r : R2) (o : D → D → (B → Prop) → Prop) : Prop := ∀ y Hf aS Γ σ H x x' dx dy Φ Q, At K y Hf aS Γ σ H → PRep K Hf aS H x dx → PRep K Hf aS H x' dy → o dx dy Φ →
  (∀ b v Hf' H', At K y Hf' aS Γ σ H' → Same Hf Hf' → Keep aS H H' → BAt K y Hf' aS H' v b → Apart v b Γ σ → Φ b → Q v H') → r x x' H Q
def dOp (o : D → D → (B → Prop) → Prop) (T U : DE) : DO := fun Γ Φ => T Γ fun d Γ1 => U Γ1 fun e Γ2 => o d e fun b => Φ b Γ2
theorem so_op {r : R2} {o : D → D → (B → Prop) → Prop} {ta tb : TE} {T U : DE} (hr : Op2 K r o) (h : SQ K ta T) (g : SQ K tb U) : SO K (tOp r ta tb) (dOp o T U) := fun y Hf aS Γ σ H Φ Q A hT k =>
  h y Hf aS Γ σ H _ _ A hT fun d Γ1 v Hf1 H1 A1 e1 k1 r1 hT1 => g y Hf1 aS Γ1 σ H1 _ _ A1 hT1 fun e Γ2 w Hf2 H2 A2 e2 k2 r2 hT2 =>
    hr y Hf2 aS Γ2 σ H2 v w d e _ _ A2 (r1.mono e2 k2) r2 hT2 fun b u Hf3 H3 A3 e3 k3 hb ha hΦ => k b Γ2 u Hf3 H3 A3 ((e1.trans e2).trans e3) ((k1.trans k2).trans k3) hb ha hΦ
theorem Op2.or {r r' : R2} {o o' : D → D → (B → Prop) → Prop} (h : Op2 K r o) (h' : Op2 K r' o') : Op2 K (fun x y H Q => r x y H Q ∨ r' x y H Q) (fun a b k => o a b k ∨ o' a b k) :=
  fun y Hf aS Γ σ H x x' dx dy Φ Q A h1 h2 ho k => ho.elim (fun z => .inl (h y Hf aS Γ σ H x x' dx dy Φ Q A h1 h2 z k)) fun z => .inr (h' y Hf aS Γ σ H x x' dx dy Φ Q A h1 h2 z k)
theorem Op2.imp {r : R2} {o o' : D → D → (B → Prop) → Prop} (h : Op2 K r o) (f : ∀ a b k, o' a b k → o a b k) : Op2 K r o' :=
  fun y Hf aS Γ σ H x x' dx dy Φ Q A h1 h2 ho k => h y Hf aS Γ σ H x x' dx dy Φ Q A h1 h2 (f _ _ _ ho) k
/-- scalars -/
theorem PRep.int {i : Int} (h : PRep K Hf aS H v (.int i)) : v = .int i := by
  rcases h with h | ⟨a, o, _, e, _⟩
  · cases h; rfl
  · cases o <;> cases e
theorem PRep.str {x : Str} (h : PRep K Hf aS H v (.str x)) : v = .str x := by
  rcases h with h | ⟨a, o, _, e, _⟩
  · cases h; rfl
  · cases o <;> cases e
theorem PRep.bl {x : Bool} (h : PRep K Hf aS H v (.bl x)) : v = .bl x := by
  rcases h with h | ⟨a, o, _, e, _⟩
  · cases h; rfl
  · cases o <;> cases e
theorem PRep.non (h : PRep K Hf aS H v .non) : v = .non := by
  rcases h with h | ⟨a, o, _, e, _⟩
  · cases h; rfl
  · cases o <;> cases e
theorem PRep.tup (c : Co y Hf aS S H) {ds : List D} (h : PRep K Hf aS H v (.tup ds)) : ∃ a vs, v = .ref a ∧ H a = some (.tup vs) ∧ Hf a = some (.tup vs) ∧ RepL K Hf vs ds := by
  rcases h with h | ⟨a, o, _, e, _⟩
  · cases h with
    | tup h1 h2 => exact ⟨_, _, rfl, c.frz _ _ h1, h1, h2⟩
  · cases o <;> cases e
theorem PRep.lst (c : Co y Hf aS S H) {ds : List D} (h : PRep K Hf aS H v (.lst ds)) : ∃ a vs, v = .ref a ∧ H a = some (.lst vs) ∧ RepL K Hf vs ds ∧ aS ≠ some a := by
  rcases h with h | ⟨a, o, e1, e, h, n⟩
  · cases h with
    | lst h1 h2 =>
      refine ⟨_, _, rfl, c.frz _ _ h1, h2, fun e => ?_⟩
      rw [(c.sto.none e).1] at h1
      cases h1
  · cases o with
    | lst xs =>
      cases e
      obtain ⟨vs, h1, h2⟩ := h
      exact ⟨a, vs, e1, h1, h2, n⟩
    | dic xs => cases e
    | ins c fs => cases e
theorem PRep.dic (c : Co y Hf aS S H) {ds : List (Key × D)} (h : PRep K Hf aS H v (.dic ds)) : ∃ a vs, v = .ref a ∧ L2.Rd H a (.dK vs) ∧ RepK K Hf vs ds ∧ aS ≠ some a := by
  rcases h with h | ⟨a, o, e1, e, h, n⟩
  · cases h with
    | dic h1 h2 =>
      refine ⟨_, _, rfl, h1.imp (c.frz _ _) fun ⟨o, h⟩ => ⟨o, c.frz _ _ h⟩, h2, fun e => ?_⟩
      have z := (c.sto.none e).1
      rcases h1 with h1 | ⟨o, h1⟩ <;> (rw [z] at h1; cases h1)
  · cases o with
    | dic xs =>
      cases e
      obtain ⟨vs, h1, h2⟩ := h
      exact ⟨a, vs, e1, .inl h1, h2, n⟩
    | lst xs => cases e
    | ins c fs => cases e
theorem PRep.scr (c : Co y Hf aS S H) {ns : List Int} (h : PRep K Hf aS H v (.scr ns)) : ∃ a, v = .ref a ∧ SqL K H a (ns.map V.int) := by
  rcases h with h | ⟨a, o, e1, e, h, n⟩
  · cases h with
    | scr h1 => exact ⟨_, rfl, same_sq c.frz h1⟩
  · cases o <;> cases e

def intD (C : Int → Int → Prop) (f : Int → Int → D) (a b : D) (k : B → Prop) : Prop := match a, b with
  | .int i, .int j => C i j ∧ k (.fro (f i j))
  | _, _ => False
theorem op2_int {C : Int → Int → Prop} {f : Int → Int → D} {g : Int → Int → V} (hg : ∀ i j (H : Hp), Rep K H (g i j) (f i j)) : Op2 K (rI C g) (intD C f) := by
  intro y Hf aS Γ σ H x x' dx dy Φ Q A h1 h2 ho k
  unfold intD at ho
  split at ho
  · exact ⟨_, _, h1.int, h2.int, ho.1, k (.fro _) _ Hf H A (Same.refl _) (Keep.refl _ _) (hg _ _ _) trivial ho.2⟩
  · exact ho.elim
def intD0 (f : Int → Int → D) (a b : D) (k : B → Prop) : Prop := match a, b with
  | .int i, .int j => k (.fro (f i j))
  | _, _ => False
theorem op2_int0 {f : Int → Int → D} {g : Int → Int → V} (hg : ∀ i j (H : Hp), Rep K H (g i j) (f i j)) : Op2 K (rI0 g) (intD0 f) := by
  intro y Hf aS Γ σ H x x' dx dy Φ Q A h1 h2 ho k
  unfold intD0 at ho
  split at ho
  · exact ⟨_, _, h1.int, h2.int, k (.fro _) _ Hf H A (Same.refl _) (Keep.refl _ _) (hg _ _ _) trivial ho⟩
  · exact ho.elim
/-- a + b -/
def addD (a b : D) (k : B → Prop) : Prop := match a, b with
  | .int i, .int j => k (.fro (.int (i + j)))
  | .str s, .str t => s.length + t.length ≤ sizeLine ∧ k (.fro (.str (s ++ t)))
  | .tup xs, .tup ys => xs.length + ys.length ≤ sizeLine ∧ k (.fro (.tup (xs ++ ys)))
  | .lst xs, .lst ys => xs.length + ys.length ≤ sizeLine ∧ k (.own (.lst (xs ++ ys)))
  | _, _ => False
def rAddD (K : PySem.W.Frag) : R2 := fun x y H Q => rI0 (fun i j => .int (i + j)) x y H Q ∨ (∃ i j, x = .str i ∧ y = .str j ∧ i.length + j.length ≤ sizeLine ∧ Q (.str (i ++ j)) H) ∨ rCatA K x y H Q ∨ rCat x y H Q
theorem op_addD {X : Cx} : OpR X (binaryOp .Add) (rAddD X.K) := op_add.or (op_add_str.or (op_catA.or op_cat))
theorem op2_add : Op2 K (rAddD K) addD := by
  intro y Hf aS Γ σ H x x' dx dy Φ Q A h1 h2 ho k
  unfold addD at ho
  split at ho
  · exact .inl ⟨_, _, h1.int, h2.int, k (.fro _) _ Hf H A (Same.refl _) (Keep.refl _ _) (Rep.int _) trivial ho⟩
  · exact .inr (.inl ⟨_, _, h1.str, h2.str, ho.1, k (.fro _) _ Hf H A (Same.refl _) (Keep.refl _ _) (Rep.str _) trivial ho.2⟩)
  · rename_i xs ys
    obtain ⟨a, vs, rfl, f1, g1, r1⟩ := h1.tup A.co
    obtain ⟨b, us, rfl, f2, g2, r2⟩ := h2.tup A.co
    refine .inr (.inr (.inl ⟨a, b, vs, us, rfl, rfl, SqT.of f1, SqT.of f2, by rw [r1.len, r2.len]; exact ho.1, fun e => ?_, fun _ e => ?_, fun _ _ p hp => ?_⟩))
    · subst e
      cases r1
      exact k (.fro _) _ Hf H A (Same.refl _) (Keep.refl _ _) (Rep.tup g2 r2) trivial ho.2
    · subst e
      cases r2
      refine k (.fro _) _ Hf H A (Same.refl _) (Keep.refl _ _) (Rep.tup g1 ?_) trivial ho.2
      rw [List.append_nil]
      exact r1
    · have q := A.layK hp (o := .tup (vs ++ us))
      exact k (.fro _) _ _ _ (A.lay hp) q.1 q.2 (Rep.tup upd_same ((r1.mono q.1).app (r2.mono q.1))) trivial ho.2
  · rename_i xs ys
    obtain ⟨a, vs, rfl, f1, r1, n1⟩ := h1.lst A.co
    obtain ⟨b, us, rfl, f2, r2, n2⟩ := h2.lst A.co
    refine .inr (.inr (.inr ⟨a, b, vs, us, rfl, rfl, f1, f2, by rw [r1.len, r2.len]; exact ho.1, fun p hp => ?_⟩))
    exact k (.own (.lst _)) _ _ _ (A.layO hp) (Same.refl _) (A.layK hp).2 ⟨p, rfl, ⟨_, upd_same, r1.app r2⟩, A.co.frzn hp, A.co.old hp, A.co.sne hp⟩ (A.apart (o := .lst []) hp) ho.2
  · exact ho.elim
/-- a * b -/
def CMulD (i j : Int) : Prop := CMul i j ∨ CMulW i j
theorem op_mulD {X : Cx} : OpR X (binaryOp .Mult) (rI CMulD fun i j => .int (i * j)) := opI fun _ _ _ _ _ _ _ hc q => mul_int q (hc.elim (fun z => z.ok) fun z => z.ok)

/-! ### comparisons -/
def ordD (f : Int → Int → Bool) (g : Str → Str → Bool) (a b : D) (k : B → Prop) : Prop := match a, b with
  | .int i, .int j => k (.fro (.bl (f i j)))
  | .str s, .str t => k (.fro (.bl (g s t)))
  | _, _ => False
def rOrd (f : Int → Int → Bool) (g : Str → Str → Bool) : R2 := fun x y H Q => rI0 (fun i j => .bl (f i j)) x y H Q ∨ ∃ i j, x = .str i ∧ y = .str j ∧ Q (.bl (g i j)) H
theorem op2_ord {f : Int → Int → Bool} {g : Str → Str → Bool} : Op2 K (rOrd f g) (ordD f g) := by
  intro y Hf aS Γ σ H x x' dx dy Φ Q A h1 h2 ho k
  unfold ordD at ho
  split at ho
  · exact .inl ⟨_, _, h1.int, h2.int, k (.fro _) _ Hf H A (Same.refl _) (Keep.refl _ _) (Rep.bl _) trivial ho⟩
  · exact .inr ⟨_, _, h1.str, h2.str, k (.fro _) _ Hf H A (Same.refl _) (Keep.refl _ _) (Rep.bl _) trivial ho⟩
  · exact ho.elim
def ltS (i j : Str) : Bool := decide (i.cps.toList < j.cps.toList)
theorem op_ltD {X : Cx} : OpR X (compareOp .Lt) (rOrd (fun i j => decide (i < j)) ltS) := op_lt.or op_lt_str
theorem op_leD {X : Cx} : OpR X (compareOp .LtE) (rOrd (fun i j => decide (i ≤ j)) fun i j => !ltS j i) := op_le.or op_le_str
theorem op_gtD {X : Cx} : OpR X (compareOp .Gt) (rOrd (fun i j => decide (j < i)) fun i j => ltS j i) := op_gt.or op_gt_str
theorem op_geD {X : Cx} : OpR X (compareOp .GtE) (rOrd (fun i j => decide (j ≤ i)) fun i j => !ltS i j) := op_ge.or op_ge_str
end

end
section
/-! DL2: equality, in, is, items, slices, displays, built-in calls. -/

/-! ### equality -/
mutual
def D.py : D → PyData
  | .non => .none
  | .bl b => .bool b
  | .int i => .int i
  | .str x => .str x
  | .lst xs => .list (pyL xs)
  | .tup xs => .tuple (pyL xs)
  | .dic _ => .dict []
  | .ins _ _ => .dict []
  | .scr _ => .dict []
  | .exc _ _ _ _ => .dict []
  | .ptr _ => .dict []
def pyL : List D → List PyData
  | [] => []
  | x :: xs => x.py :: pyL xs
end
theorem dict_out {kvs : List (PyData × PyData)} : (PyData.dict kvs).canLay0 = false := by simp [PyData.canLay0]
section
variable {K : PySem.W.Frag} {H : Hp}
mutual
theorem Rep.dp : ∀ {v : V} {d : D}, Rep K H v d → d.py.canLay0 = true → Dp K H v d.py
  | _, _, .non, _ => .non
  | _, _, .bl b, _ => .bl b
  | _, _, .int i, _ => .int i
  | _, _, .str x, _ => .str x
  | _, _, .lst h r, c => .lst (SqL.of h) (RepL.dp r (by simpa [D.py, PyData.canLay0] using c))
  | _, _, .tup h r, c => .tup (SqT.of h) (RepL.dp r (by simpa [D.py, PyData.canLay0] using c))
  | _, _, .dic _ _, c => by simp [D.py, PyData.canLay0] at c
  | _, _, .ins _ _ _, c => by simp [D.py, PyData.canLay0] at c
  | _, _, .ptr, c => by simp [D.py, PyData.canLay0] at c
  | _, _, .scr _, c => by simp [D.py, PyData.canLay0] at c
  | _, _, .exc0, c => by simp [D.py, PyData.canLay0] at c
  | _, _, .exc1 _ _, c => by simp [D.py, PyData.canLay0] at c
theorem RepL.dp : ∀ {v : List V} {d : List D}, RepL K H v d → PyData.canLayAll0 (pyL d) = true → DpAll K H v (pyL d)
  | _, _, .nil, _ => .nil
  | _, _, .cons h r, c => by
    have c' := by simpa [pyL, PyData.canLayAll0] using c
    exact .cons (Rep.dp h c'.1) (RepL.dp r c'.2)
end
end
def D.cmp (d : D) : Prop := SeqAt.shaped d.py = true
def eqB (a b : D) : Bool := PyData.eqv a.py b.py
def eqD (neg : Bool) (a b : D) (k : B → Prop) : Prop := match a, b with
  | .int i, .int j => k (.fro (.bl (if neg then !decide (i = j) else decide (i = j))))
  | .str i, .str j => k (.fro (.bl (if neg then !decide (i = j) else decide (i = j))))
  | .bl i, .bl j => k (.fro (.bl (if neg then !decide (i = j) else decide (i = j))))
  | a, b => a.cmp ∧ b.cmp ∧ k (.fro (.bl (if neg then !eqB a b else eqB a b)))
section
variable {K : PySem.W.Frag} {y : Yn} {Hf Hf' : Hp} {aS : Option Addr} {Γ : Ev} {σ : L2.St} {H H' : Hp} {S : Option Sto} {v : V} {d : D} {r : B}
def rEqA (K : PySem.W.Frag) (neg : Bool) : R2 := fun x y H Q => (if neg then rNe x y H Q else rEq x y H Q) ∨ (if neg then rNeD K x y H Q else rEqD K x y H Q)
theorem op_eqA {X : Cx} (hu : X.A.units + 64 < cLine) : OpR X (compareOp .Eq) (rEqA X.K false) := op_eq.or (op_eqD hu)
theorem op_neA {X : Cx} (hu : X.A.units + 64 < cLine) : OpR X (compareOp .NotEq) (rEqA X.K true) := op_ne.or (op_neD hu)
theorem hid_dp {d : D} (c : Co y Hf aS S H) (h : PRep K Hf aS H v d) (g : d.cmp) : Dp K H v d.py := by
  have q : Same (hid aS H) H := fun a o e => (hid_get e).2
  exact Rep.dp ((h.hid c).mono q) (SeqAt.canLay_of_shaped g)
theorem op2_eq {neg : Bool} : Op2 K (rEqA K neg) (eqD neg) := by
  intro y Hf aS Γ σ H x x' dx dy Φ Q A h1 h2 ho k
  unfold eqD at ho
  split at ho
  · rename_i i j
    refine .inl ?_
    have e1 := h1.int
    have e2 := h2.int
    subst e1 e2
    have e3 : decide (V.int i = V.int j) = decide (i = j) := by simp
    have q := k (.fro (.bl _)) _ Hf H A (Same.refl _) (Keep.refl _ _) (Rep.bl _) trivial ho
    cases neg with
    | true => exact ⟨rfl, by rw [e3]; exact q⟩
    | false => exact ⟨rfl, by rw [e3]; exact q⟩
  · rename_i i j
    refine .inl ?_
    have e1 := h1.str
    have e2 := h2.str
    subst e1 e2
    have e3 : decide (V.str i = V.str j) = decide (i = j) := by simp
    have q := k (.fro (.bl _)) _ Hf H A (Same.refl _) (Keep.refl _ _) (Rep.bl _) trivial ho
    cases neg with
    | true => exact ⟨rfl, by rw [e3]; exact q⟩
    | false => exact ⟨rfl, by rw [e3]; exact q⟩
  · rename_i i j
    refine .inl ?_
    have e1 := h1.bl
    have e2 := h2.bl
    subst e1 e2
    have e3 : decide (V.bl i = V.bl j) = decide (i = j) := by simp
    have q := k (.fro (.bl _)) _ Hf H A (Same.refl _) (Keep.refl _ _) (Rep.bl _) trivial ho
    cases neg with
    | true => exact ⟨rfl, by rw [e3]; exact q⟩
    | false => exact ⟨rfl, by rw [e3]; exact q⟩
  · obtain ⟨g1, g2, ho⟩ := ho
    refine .inr ?_
    have q := k (.fro (.bl _)) _ Hf H A (Same.refl _) (Keep.refl _ _) (Rep.bl _) trivial ho
    cases neg with
    | true => exact ⟨dx.py, dy.py, hid_dp A.co h1 g1, hid_dp A.co h2 g2, g1, g2, q⟩
    | false => exact ⟨dx.py, dy.py, hid_dp A.co h1 g1, hid_dp A.co h2 g2, g1, g2, q⟩

/-! ### in, not in -/
def eqS : D → D → Bool
  | .non, .non => true
  | .bl a, .bl b => a == b
  | .bl a, .int b => (if a then 1 else 0) == b
  | .int a, .bl b => a == (if b then 1 else 0)
  | .int a, .int b => a == b
  | .str a, .str b => a == b
  | _, _ => false
def memD (x : D) (xs : List D) : Bool := xs.any fun y => eqS y x
def strIn (s t : Str) : Bool := !(Builtin.Str.occurrences t s 0 t.length 1).isEmpty
def inD (neg : Bool) (a b : D) (k : B → Prop) : Prop := match b with
  | .lst ds => a.sca = true ∧ ds.all D.sca = true ∧ k (.fro (.bl (if neg then !memD a ds else memD a ds)))
  | .tup ds => a.sca = true ∧ ds.all D.sca = true ∧ k (.fro (.bl (if neg then !memD a ds else memD a ds)))
  | .str t => match a with
    | .str s => k (.fro (.bl (if neg then !strIn s t else strIn s t)))
    | _ => False
  | _ => False
theorem rep_flat (h : Rep K H v d) (s : d.sca = true) : flatV v = true := by
  cases h <;> first | rfl | (cases s; done)
theorem rep_eqS {v' : V} {d' : D} (h : Rep K H v d) (s : d.sca = true) (h' : Rep K H' v' d') (s' : d'.sca = true) : eqV v v' = eqS d d' := by
  cases h <;> first | (cases s; done) | (cases h' <;> first | (cases s'; done) | rfl)
theorem repL_flat : ∀ {vs : List V} {ds : List D}, RepL K H vs ds → ds.all D.sca = true → vs.all flatV = true
  | _, _, .nil, _ => rfl
  | _, _, .cons h r, s => by
    rw [List.all_cons, Bool.and_eq_true] at s ⊢
    exact ⟨rep_flat h s.1, repL_flat r s.2⟩
theorem repL_mem (h : Rep K H v d) (s : d.sca = true) : ∀ {vs : List V} {ds : List D}, RepL K H' vs ds → ds.all D.sca = true → inV v vs = memD d ds
  | _, _, .nil, _ => rfl
  | _, _, .cons g r, t => by
    rw [List.all_cons, Bool.and_eq_true] at t
    show (eqV _ v || inV v _) = (eqS _ d || memD d _)
    rw [rep_eqS g t.1 h s, repL_mem h s r t.2]
def rInA (K : PySem.W.Frag) (neg : Bool) : R2 := fun x y H Q => rIn K neg x y H Q ∨ ∃ i j, x = .str i ∧ y = .str j ∧ Q (.bl (if neg then !strIn i j else strIn i j)) H
theorem op_inA {X : Cx} : OpR X (compareOp .In) (rInA X.K false) := op_in_seq.or op_in_str
theorem op_niA {X : Cx} : OpR X (compareOp .NotIn) (rInA X.K true) := op_notIn_seq.or op_notIn_str
theorem PRep.scal (h : PRep K Hf aS H v d) (s : d.sca = true) : Rep K Hf v d := by
  rcases h with h | ⟨a, o, _, e, _⟩
  · exact h
  · subst e
    cases o <;> cases s
theorem op2_in {neg : Bool} : Op2 K (rInA K neg) (inD neg) := by
  intro y Hf aS Γ σ H x x' dx dy Φ Q A h1 h2 ho k
  unfold inD at ho
  split at ho
  · rename_i ds
    obtain ⟨s1, s2, ho⟩ := ho
    obtain ⟨a, vs, rfl, f, r, _⟩ := h2.lst A.co
    have q := k (.fro (.bl _)) _ Hf H A (Same.refl _) (Keep.refl _ _) (Rep.bl _) trivial ho
    have hx := h1.scal s1
    refine .inl ⟨a, vs, rfl, .inl (SqL.of f), rep_flat hx s1, repL_flat r s2, ?_⟩
    rw [repL_mem hx s1 r s2]
    exact q
  · rename_i ds
    obtain ⟨s1, s2, ho⟩ := ho
    obtain ⟨a, vs, rfl, f, _, r⟩ := h2.tup A.co
    have q := k (.fro (.bl _)) _ Hf H A (Same.refl _) (Keep.refl _ _) (Rep.bl _) trivial ho
    have hx := h1.scal s1
    refine .inl ⟨a, vs, rfl, .inr (SqT.of f), rep_flat hx s1, repL_flat r s2, ?_⟩
    rw [repL_mem hx s1 r s2]
    exact q
  · split at ho
    · exact .inr ⟨_, _, h1.str, h2.str, k (.fro (.bl _)) _ Hf H A (Same.refl _) (Keep.refl _ _) (Rep.bl _) trivial ho⟩
    · exact ho.elim
  · exact ho.elim

/-! ### is None, is True, is False -/
def isC : D → D → Bool
  | .non, .non => true
  | .bl a, .bl b => a == b
  | _, _ => false
def isD (neg : Bool) (a b : D) (k : B → Prop) : Prop := match b with
  | .non => k (.fro (.bl (if neg then !isC a .non else isC a .non)))
  | .bl c => k (.fro (.bl (if neg then !isC a (.bl c) else isC a (.bl c))))
  | _ => False
def rIsA (neg : Bool) : R2 := fun x y H Q => (y = .non ∨ ∃ b, y = .bl b) ∧ Q (.bl (if neg then !decide (x = y) else decide (x = y))) H
theorem plain_is {x c : V} {v u : Value} (rx : RelV x v) (rc : RelV c u) (hc : c = .non ∨ ∃ b, c = .bl b) : plainIs v u = true ∧ (v == u) = decide (x = c) := by
  rcases hc with rfl | ⟨b, rfl⟩
  · have e : u = Value.none := rc
    subst e
    cases x with
    | non => cases (show v = Value.none from rx); exact ⟨rfl, rfl⟩
    | bl b => cases (show v = Value.bool b from rx); exact ⟨rfl, by simp⟩
    | int i => obtain ⟨t, rfl⟩ := rx; exact ⟨rfl, by simp⟩
    | str i => obtain ⟨t, rfl⟩ := rx; exact ⟨rfl, by simp⟩
    | byt i => obtain ⟨t, rfl⟩ := rx; exact ⟨rfl, by simp⟩
    | flt i => obtain ⟨t, rfl⟩ := rx; exact ⟨rfl, by simp⟩
    | ref i => cases (show v = Value.ref i from rx); exact ⟨rfl, by simp⟩
    | ty i => cases (show v = Value.type i from rx); exact ⟨rfl, by simp⟩
  · have e : u = Value.bool b := rc
    subst e
    cases x with
    | non => cases (show v = Value.none from rx); exact ⟨rfl, by simp⟩
    | bl b => cases (show v = Value.bool b from rx); exact ⟨rfl, by rw [Bool.eq_iff_iff]; simp⟩
    | int i => obtain ⟨t, rfl⟩ := rx; exact ⟨rfl, by simp⟩
    | str i => obtain ⟨t, rfl⟩ := rx; exact ⟨rfl, by simp⟩
    | byt i => obtain ⟨t, rfl⟩ := rx; exact ⟨rfl, by simp⟩
    | flt i => obtain ⟨t, rfl⟩ := rx; exact ⟨rfl, by simp⟩
    | ref i => cases (show v = Value.ref i from rx); exact ⟨rfl, by simp⟩
    | ty i => cases (show v = Value.type i from rx); exact ⟨rfl, by simp⟩
theorem op_isA {X : Cx} : OpR X (compareOp .Is) (rIsA false) := by
  intro pins s σ H x y v u Q I rx ry h
  obtain ⟨hy, q⟩ := h
  obtain ⟨p, e⟩ := plain_is rx ry hy
  refine wpAny_is_plain p ?_
  rw [e]
  exact ⟨.bl _, H, I, rfl, q⟩
theorem op_isNA {X : Cx} : OpR X (compareOp .IsNot) (rIsA true) := by
  intro pins s σ H x y v u Q I rx ry h
  obtain ⟨hy, q⟩ := h
  obtain ⟨p, e⟩ := plain_is rx ry hy
  refine wpAny_isNot_plain p ?_
  rw [e]
  exact ⟨.bl _, H, I, rfl, q⟩
theorem prep_non (h : PRep K Hf aS H v d) : decide (v = .non) = isC d .non := by
  rcases h with h | ⟨a, o, rfl, rfl, _⟩
  · cases h <;> simp [isC]
  · cases o <;> simp [isC, O.d]
theorem prep_bl {c : Bool} (h : PRep K Hf aS H v d) : decide (v = .bl c) = isC d (.bl c) := by
  rcases h with h | ⟨a, o, rfl, rfl, _⟩
  · cases h <;> simp [isC]
    all_goals (rw [Bool.eq_iff_iff]; simp)
  · cases o <;> simp [isC, O.d]
theorem op2_is {neg : Bool} : Op2 K (rIsA neg) (isD neg) := by
  intro y Hf aS Γ σ H x x' dx dy Φ Q A h1 h2 ho k
  unfold isD at ho
  split at ho
  · have e := h2.non
    subst e
    refine ⟨.inl rfl, ?_⟩
    rw [prep_non h1]
    exact k (.fro (.bl _)) _ Hf H A (Same.refl _) (Keep.refl _ _) (Rep.bl _) trivial ho
  · have e := h2.bl
    subst e
    refine ⟨.inr ⟨_, rfl⟩, ?_⟩
    rw [prep_bl h1]
    exact k (.fro (.bl _)) _ Hf H A (Same.refl _) (Keep.refl _ _) (Rep.bl _) trivial ho
  · exact ho.elim

/-! ### items -/
def ixD (a b : D) (k : B → Prop) : Prop := match a, b with
  | .lst ds, .int i => ∃ d, atI ds i = some d ∧ k (.fro d)
  | .tup ds, .int i => ∃ d, atI ds i = some d ∧ k (.fro d)
  | .str s, .int i => s.length ≤ sizeLine ∧ ∃ c, atI s.cps.toList i = some c ∧ k (.fro (.str ⟨#[c]⟩))
  | _, _ => False
theorem at_rep {vs : List V} {ds : List D} {i : Int} (r : RepL K Hf vs ds) (h : atI ds i = some d) : ∃ v, atI vs i = some v ∧ Rep K Hf v d := by
  unfold atI at h ⊢
  rw [r.len]
  cases e : ixN ds.length i with
  | none => rw [e] at h; cases h
  | some j =>
    rw [e] at h
    exact r.get h
theorem op2_ix : Op2 K (rIx K) ixD := by
  intro y Hf aS Γ σ H x x' dx dy Φ Q A h1 h2 ho k
  unfold ixD at ho
  split at ho
  · obtain ⟨d, h, ho⟩ := ho
    obtain ⟨a, vs, rfl, f, r, _⟩ := h1.lst A.co
    obtain ⟨v, hv, hr⟩ := at_rep r h
    exact .inl ⟨a, vs, _, v, rfl, h2.int, SqL.of f, hv, k (.fro d) _ Hf H A (Same.refl _) (Keep.refl _ _) hr trivial ho⟩
  · obtain ⟨d, h, ho⟩ := ho
    obtain ⟨a, vs, rfl, f, _, r⟩ := h1.tup A.co
    obtain ⟨v, hv, hr⟩ := at_rep r h
    exact .inr (.inl ⟨a, vs, _, v, rfl, h2.int, SqT.of f, hv, k (.fro d) _ Hf H A (Same.refl _) (Keep.refl _ _) hr trivial ho⟩)
  · obtain ⟨hz, c, h, ho⟩ := ho
    exact .inr (.inr ⟨_, _, c, h1.str, h2.int, hz, h, k (.fro (.str _)) _ Hf H A (Same.refl _) (Keep.refl _ _) (Rep.str _) trivial ho⟩)
  · exact ho.elim

/-! ### slices -/
def cutD {α : Type} (xs : List α) (lo hi : Option Int) : List α := (xs.drop (HT.sIx xs.length 0 lo)).take (HT.sIx xs.length xs.length hi - HT.sIx xs.length 0 lo)
theorem cut_rep {vs : List V} {ds : List D} (r : RepL K Hf vs ds) (lo hi : Option Int) : RepL K Hf (cutV vs lo hi) (cutD ds lo hi) := by
  unfold cutV cutD
  rw [r.len]
  exact (r.drop _).take _
abbrev DP := Ev → (Option Int → Ev → Prop) → Prop
def dNoP : DP := fun Γ Φ => Φ none Γ
def dPart (T : DE) : DP := fun Γ Φ => T Γ fun d Γ' => match d with
  | .int i => Φ (some i) Γ'
  | _ => False
def SPt (K : PySem.W.Frag) (t : TO) (T : DP) : Prop := ∀ y Hf aS Γ σ H Φ Q, At K y Hf aS Γ σ H → T Γ Φ →
  (∀ o Γ' Hf' H', At K y Hf' aS Γ' σ H' → Same Hf Hf' → Keep aS H H' → Φ o Γ' → Q o H') → t σ H Q
theorem spt_no : SPt K tNoPart dNoP := fun y Hf aS Γ σ H Φ Q A hT k => k none Γ Hf H A (Same.refl _) (Keep.refl _ _) hT
theorem spt_some {t : TE} {T : DE} (h : SQ K t T) : SPt K (tPart t) (dPart T) := fun y Hf aS Γ σ H Φ Q A hT k =>
  h y Hf aS Γ σ H _ _ A hT fun d Γ1 v Hf1 H1 A1 e1 k1 r1 hT1 => by
    cases d with
    | int i => exact ⟨i, r1.int, k _ Γ1 Hf1 H1 A1 e1 k1 hT1⟩
    | _ => exact hT1.elim
structure PDP' (X : Cx) (e : Option Expr) (t : TO) (T : DP) : Prop where
  p : PO X e t
  s : SPt X.K t T
def slD (a : D) (lo hi : Option Int) (k : B → Prop) : Prop := match a with
  | .lst ds => k (.own (.lst (cutD ds lo hi)))
  | .tup ds => k (.fro (.tup (cutD ds lo hi)))
  | .str s => s.length ≤ sizeLine ∧ k (.fro (.str (cutS s lo hi)))
  | _ => False
def rSlD (K : PySem.W.Frag) : V → Option Int → Option Int → Hp → VK → Prop := fun x lo hi H Q => rSlL K x lo hi H Q ∨ rSlA K x lo hi H Q ∨ rSlS x lo hi H Q
theorem sl_any {X : Cx} : SlR X (rSlD X.K) := sl_list.or (sl_tupA.or sl_str)
def dSl (T : DE) (l u : DP) : DO := fun Γ Φ => T Γ fun d Γ1 => l Γ1 fun lo Γ2 => u Γ2 fun hi Γ3 => slD d lo hi fun b => Φ b Γ3
theorem cutV_all {vs : List V} {lo hi : Option Int} (h : HT.sIx vs.length 0 lo = 0 ∧ HT.sIx vs.length vs.length hi = vs.length) : cutV vs lo hi = vs := by
  unfold cutV
  rw [h.1, h.2]
  show List.take (vs.length - 0) (List.drop 0 vs) = vs
  rw [List.drop_zero, Nat.sub_zero, List.take_length]
theorem so_slice {t : TE} {T : DE} {tl tu : TO} {l u : DP} (h : SQ K t T) (hl : SPt K tl l) (hu : SPt K tu u) : SO K (tSl (rSlD K) t tl tu) (dSl T l u) := by
  intro y Hf aS Γ σ H Φ Q A hT k
  refine h y Hf aS Γ σ H _ _ A hT fun d Γ1 v Hf1 H1 A1 e1 k1 r1 hT1 => ?_
  refine hl y Hf1 aS Γ1 σ H1 _ _ A1 hT1 fun lo Γ2 Hf2 H2 A2 e2 k2 hT2 => ?_
  refine hu y Hf2 aS Γ2 σ H2 _ _ A2 hT2 fun hi Γ3 Hf3 H3 A3 e3 k3 hT3 => ?_
  have r3 : PRep K Hf3 aS H3 v d := (r1.mono e2 k2).mono e3 k3
  have e4 := (e1.trans e2).trans e3
  have k4 := (k1.trans k2).trans k3
  unfold slD at hT3
  split at hT3
  · obtain ⟨a, vs, rfl, f, r, _⟩ := r3.lst A3.co
    refine .inl ⟨a, vs, rfl, SqL.of f, fun p hp => ?_⟩
    exact k (.own (.lst _)) Γ3 _ Hf3 _ (A3.layO hp) e4 (k4.trans (A3.layK hp).2) ⟨p, rfl, ⟨_, upd_same, cut_rep r lo hi⟩, A3.co.frzn hp, A3.co.old hp, A3.co.sne hp⟩ (A3.apart (o := .lst []) hp) hT3
  · obtain ⟨a, vs, rfl, f, g, r⟩ := r3.tup A3.co
    refine .inr (.inl ⟨a, vs, rfl, SqT.of f, fun hw => ?_, fun _ p hp => ?_⟩)
    · have r4 := cut_rep r lo hi
      rw [cutV_all hw] at r4
      exact k (.fro (.tup _)) Γ3 _ Hf3 _ A3 e4 k4 (Rep.tup g r4) trivial hT3
    · have q := A3.layK hp (o := .tup (cutV vs lo hi))
      exact k (.fro (.tup _)) Γ3 _ _ _ (A3.lay hp) (e4.trans q.1) (k4.trans q.2) (Rep.tup upd_same ((cut_rep r lo hi).mono q.1)) trivial hT3
  · exact .inr (.inr ⟨_, r3.str, hT3.1, k (.fro (.str _)) Γ3 _ Hf3 _ A3 e4 k4 (Rep.str _) trivial hT3.2⟩)
  · exact hT3.elim

/-! ### displays -/
def dTup (T : DA) : DE := fun Γ Φ => T Γ fun ds Γ' => ds.length ≤ sizeLine ∧ Φ (.tup ds) Γ'
def dLst (T : DA) : DO := fun Γ Φ => T Γ fun ds Γ' => ds.length ≤ sizeLine ∧ Φ (.own (.lst ds)) Γ'
theorem se_tup {t : TA} {T : DA} (h : SA K t T) : SE K (tTup t) (dTup T) := fun y Hf aS Γ σ H Φ Q A hT k =>
  h y Hf aS Γ σ H _ _ A hT fun ds Γ1 vs Hf1 H1 A1 e1 k1 r1 hT1 => ⟨by rw [r1.len]; exact hT1.1, fun p hp => by
    have q := A1.layK hp (o := .tup vs)
    exact k (.tup ds) Γ1 _ _ _ (A1.lay hp) (e1.trans q.1) (k1.trans q.2) (.tup upd_same (r1.mono q.1)) hT1.2⟩
theorem so_lst {t : TA} {T : DA} (h : SA K t T) : SO K (tLst t) (dLst T) := fun y Hf aS Γ σ H Φ Q A hT k =>
  h y Hf aS Γ σ H _ _ A hT fun ds Γ1 vs Hf1 H1 A1 e1 k1 r1 hT1 => ⟨by rw [r1.len]; exact hT1.1, fun p hp =>
    k (.own (.lst _)) Γ1 _ Hf1 _ (A1.layO hp) e1 (k1.trans (A1.layK hp).2) ⟨p, rfl, ⟨_, upd_same, r1⟩, A1.co.frzn hp, A1.co.old hp, A1.co.sne hp⟩ (A1.apart (o := .lst []) hp) hT1.2⟩

/-! ### calls of built-ins, by values -/
def Cl (K : PySem.W.Frag) (r : List V → Hp → VK → Prop) (o : List D → (B → Prop) → Prop) : Prop := ∀ y Hf aS Γ σ H vs ds Φ Q, At K y Hf aS Γ σ H → PRepL K Hf aS H vs ds → o ds Φ →
  (∀ b v Hf' H', At K y Hf' aS Γ σ H' → Same Hf Hf' → Keep aS H H' → BAt K y Hf' aS H' v b → Apart v b Γ σ → Φ b → Q v H') → r vs H Q
def dCl (o : List D → (B → Prop) → Prop) (T : DA) : DO := fun Γ Φ => T Γ fun ds Γ' => o ds fun b => Φ b Γ'
theorem so_cl {r : List V → Hp → VK → Prop} {o : List D → (B → Prop) → Prop} {t : TA} {T : DA} (hr : Cl K r o) (h : SQA K t T) : SO K (tCB r t) (dCl o T) := fun y Hf aS Γ σ H Φ Q A hT k =>
  h y Hf aS Γ σ H _ _ A hT fun ds Γ1 vs Hf1 H1 A1 e1 k1 r1 hT1 =>
    hr y Hf1 aS Γ1 σ H1 vs ds _ _ A1 r1 hT1 fun b u Hf3 H3 A3 e3 k3 hb ha hΦ => k b Γ1 u Hf3 H3 A3 (e1.trans e3) (k1.trans k3) hb ha hΦ
def lenD (ds : List D) (k : B → Prop) : Prop := match ds with
  | [.lst xs] => k (.fro (.int (xs.length : Int)))
  | [.tup xs] => k (.fro (.int (xs.length : Int)))
  | [.str s] => s.length ≤ sizeLine ∧ k (.fro (.int (s.length : Int)))
  | [.scr s] => k (.fro (.int (s.length : Int)))
  | _ => False
theorem PRepL.one (h : PRepL K Hf aS H vs [d]) : ∃ v, vs = [v] ∧ PRep K Hf aS H v d := by
  cases h with
  | cons h r => cases r; exact ⟨_, rfl, h⟩
theorem PRepL.two {d e : D} (h : PRepL K Hf aS H vs [d, e]) : ∃ v u, vs = [v, u] ∧ PRep K Hf aS H v d ∧ PRep K Hf aS H u e := by
  cases h with
  | cons h r =>
    obtain ⟨u, rfl, g⟩ := r.one
    exact ⟨_, u, rfl, h, g⟩
def rLen (K : PySem.W.Frag) : List V → Hp → VK → Prop := fun xs H Q => ∃ x n, xs = [x] ∧ LenV K x H n ∧ Q (.int n) H
theorem cl_len : Cl K (rLen K) lenD := by
  intro y Hf aS Γ σ H vs ds Φ Q A h ho k
  unfold lenD at ho
  split at ho
  · obtain ⟨v, rfl, g⟩ := h.one
    obtain ⟨a, us, rfl, f, r, _⟩ := g.lst A.co
    exact ⟨_, _, rfl, .inl ⟨us, SqL.of f, r.len.symm⟩, k (.fro (.int _)) _ Hf H A (Same.refl _) (Keep.refl _ _) (Rep.int _) trivial ho⟩
  · obtain ⟨v, rfl, g⟩ := h.one
    obtain ⟨a, us, rfl, f, _, r⟩ := g.tup A.co
    exact ⟨_, _, rfl, .inr ⟨us, SqT.of f, r.len.symm⟩, k (.fro (.int _)) _ Hf H A (Same.refl _) (Keep.refl _ _) (Rep.int _) trivial ho⟩
  · obtain ⟨v, rfl, g⟩ := h.one
    have e := g.str
    subst e
    exact ⟨_, _, rfl, ⟨ho.1, rfl⟩, k (.fro (.int _)) _ Hf H A (Same.refl _) (Keep.refl _ _) (Rep.int _) trivial ho.2⟩
  · obtain ⟨v, rfl, g⟩ := h.one
    obtain ⟨a, rfl, f⟩ := g.scr A.co
    exact ⟨_, _, rfl, .inl ⟨_, f, (List.length_map _).symm⟩, k (.fro (.int _)) _ Hf H A (Same.refl _) (Keep.refl _ _) (Rep.int _) trivial ho⟩
  · exact ho.elim
def intCD (ds : List D) (k : B → Prop) : Prop := match ds with
  | [.int i] => k (.fro (.int i))
  | [.bl b] => k (.fro (.int (if b then 1 else 0)))
  | _ => False
def rIntC : List V → Hp → VK → Prop := fun xs H Q => (∃ i, xs = [.int i] ∧ Q (.int i) H) ∨ ∃ k, xs = [.bl k] ∧ Q (.int (if k then 1 else 0)) H
theorem cl_int : Cl K rIntC intCD := by
  intro y Hf aS Γ σ H vs ds Φ Q A h ho k
  unfold intCD at ho
  split at ho
  · obtain ⟨v, rfl, g⟩ := h.one
    have e := g.int
    subst e
    exact .inl ⟨_, rfl, k (.fro (.int _)) _ Hf H A (Same.refl _) (Keep.refl _ _) (Rep.int _) trivial ho⟩
  · obtain ⟨v, rfl, g⟩ := h.one
    have e := g.bl
    subst e
    exact .inr ⟨_, rfl, k (.fro (.int _)) _ Hf H A (Same.refl _) (Keep.refl _ _) (Rep.int _) trivial ho⟩
  · exact ho.elim
def int1D (f : Int → Int) (ds : List D) (k : B → Prop) : Prop := match ds with
  | [.int i] => k (.fro (.int (f i)))
  | _ => False
def int2D (f : Int → Int → Int) (ds : List D) (k : B → Prop) : Prop := match ds with
  | [.int i, .int j] => k (.fro (.int (f i j)))
  | _ => False
def absI (i : Int) : Int := if i < 0 then -i else i
def maxI (i j : Int) : Int := if j > i then j else i
def minI (i j : Int) : Int := if j < i then j else i
theorem cl_int1 {f : Int → Int} : Cl K (fun xs H Q => ∃ i, xs = [.int i] ∧ Q (.int (f i)) H) (int1D f) := by
  intro y Hf aS Γ σ H vs ds Φ Q A h ho k
  unfold int1D at ho
  split at ho
  · obtain ⟨v, rfl, g⟩ := h.one
    have e := g.int
    subst e
    exact ⟨_, rfl, k (.fro (.int _)) _ Hf H A (Same.refl _) (Keep.refl _ _) (Rep.int _) trivial ho⟩
  · exact ho.elim
theorem cl_int2 {f : Int → Int → Int} : Cl K (fun xs H Q => ∃ i j, xs = [.int i, .int j] ∧ Q (.int (f i j)) H) (int2D f) := by
  intro y Hf aS Γ σ H vs ds Φ Q A h ho k
  unfold int2D at ho
  split at ho
  · obtain ⟨v, u, rfl, g, g'⟩ := h.two
    have e := g.int
    have e' := g'.int
    subst e e'
    exact ⟨_, _, rfl, k (.fro (.int _)) _ Hf H A (Same.refl _) (Keep.refl _ _) (Rep.int _) trivial ho⟩
  · exact ho.elim
def strCD (ds : List D) (k : B → Prop) : Prop := match ds with
  | [.int i] => i.natAbs.log2 < 1920 ∧ k (.fro (.str (toString i)))
  | _ => False
theorem cl_str : Cl K (fun xs H Q => ∃ i : Int, xs = [.int i] ∧ i.natAbs.log2 < 1920 ∧ Q (.str (toString i)) H) strCD := by
  intro y Hf aS Γ σ H vs ds Φ Q A h ho k
  unfold strCD at ho
  split at ho
  · obtain ⟨v, rfl, g⟩ := h.one
    have e := g.int
    subst e
    exact ⟨_, rfl, ho.1, k (.fro (.str _)) _ Hf H A (Same.refl _) (Keep.refl _ _) (Rep.str _) trivial ho.2⟩
  · exact ho.elim
/-- list(xs), tuple(xs) -/
def lstCD (ds : List D) (k : B → Prop) : Prop := match ds with
  | [.lst xs] => k (.own (.lst xs))
  | [.tup xs] => k (.own (.lst xs))
  | _ => False
def rListC (K : PySem.W.Frag) : List V → Hp → VK → Prop := fun xs H Q => ∃ p ys, xs = [.ref p] ∧ (SqL K H p ys ∨ SqT K H p ys) ∧ ∀ l, H l = none → Q (.ref l) (upd H l (.lst ys))
theorem cl_list : Cl K (rListC K) lstCD := by
  intro y Hf aS Γ σ H vs ds Φ Q A h ho k
  unfold lstCD at ho
  split at ho
  · obtain ⟨v, rfl, g⟩ := h.one
    obtain ⟨a, us, rfl, f, r, _⟩ := g.lst A.co
    exact ⟨_, _, rfl, .inl (SqL.of f), fun p hp => k (.own (.lst _)) _ Hf _ (A.layO hp) (Same.refl _) (A.layK hp).2 ⟨p, rfl, ⟨_, upd_same, r⟩, A.co.frzn hp, A.co.old hp, A.co.sne hp⟩ (A.apart (o := .lst []) hp) ho⟩
  · obtain ⟨v, rfl, g⟩ := h.one
    obtain ⟨a, us, rfl, f, _, r⟩ := g.tup A.co
    exact ⟨_, _, rfl, .inr (SqT.of f), fun p hp => k (.own (.lst _)) _ Hf _ (A.layO hp) (Same.refl _) (A.layK hp).2 ⟨p, rfl, ⟨_, upd_same, r⟩, A.co.frzn hp, A.co.old hp, A.co.sne hp⟩ (A.apart (o := .lst []) hp) ho⟩
  · exact ho.elim
def tupCD (ds : List D) (k : B → Prop) : Prop := match ds with
  | [.lst xs] => k (.fro (.tup xs))
  | [.tup xs] => k (.fro (.tup xs))
  | _ => False
def rTupC (K : PySem.W.Frag) : List V → Hp → VK → Prop := fun xs H Q => ∃ p ys, xs = [.ref p] ∧ ((SqL K H p ys ∧ ∀ l, H l = none → Q (.ref l) (upd H l (.tup ys))) ∨ (SqT K H p ys ∧ Q (.ref p) H))
theorem cl_tuple : Cl K (rTupC K) tupCD := by
  intro y Hf aS Γ σ H vs ds Φ Q A h ho k
  unfold tupCD at ho
  split at ho
  · obtain ⟨v, rfl, g⟩ := h.one
    obtain ⟨a, us, rfl, f, r, _⟩ := g.lst A.co
    refine ⟨_, _, rfl, .inl ⟨SqL.of f, fun p hp => ?_⟩⟩
    have q := A.layK hp (o := .tup us)
    exact k (.fro (.tup _)) _ _ _ (A.lay hp) q.1 q.2 (Rep.tup upd_same (r.mono q.1)) trivial ho
  · obtain ⟨v, rfl, g⟩ := h.one
    obtain ⟨a, us, rfl, f, g2, r⟩ := g.tup A.co
    exact ⟨_, _, rfl, .inr ⟨SqT.of f, k (.fro (.tup _)) _ Hf H A (Same.refl _) (Keep.refl _ _) (Rep.tup g2 r) trivial ho⟩⟩
  · exact ho.elim

/-! ### isinstance of built-in types -/
inductive Ty where
  | int | bool | str | lst | tup | dic
def Ty.nm : Ty → String
  | .int => "int"
  | .bool => "bool"
  | .str => "str"
  | .lst => "list"
  | .tup => "tuple"
  | .dic => "dict"
def D.isa : D → Ty → Bool
  | .bl _, .int => true
  | .bl _, .bool => true
  | .int _, .int => true
  | .str _, .str => true
  | .lst _, .lst => true
  | .scr _, .lst => true
  | .tup _, .tup => true
  | .dic _, .dic => true
  | _, _ => false
def D.plain : D → Bool
  | .ins _ _ => false
  | .scr _ => false
  | .exc _ _ _ _ => false
  | .ptr _ => false
  | _ => true
def D.tn : D → String
  | .non => "NoneType"
  | .bl _ => "bool"
  | .int _ => "int"
  | .str _ => "str"
  | .lst _ => "list"
  | .tup _ => "tuple"
  | .dic _ => "dict"
  | _ => ""
theorem prep_ty (c : Co y Hf aS S H) (h : PRep K Hf aS H v d) (p : d.plain = true) : TyX K H v (.type d.tn) := by
  cases d with
  | non => have e := h.non; subst e; exact .base .non
  | bl b => have e := h.bl; subst e; exact .base (.bl _)
  | int b => have e := h.int; subst e; exact .base (.int _)
  | str b => have e := h.str; subst e; exact .base (.str _)
  | lst xs => obtain ⟨a, vs, rfl, f, _⟩ := h.lst c; exact .base (.lst f)
  | tup xs => obtain ⟨a, vs, rfl, f, _⟩ := h.tup c; exact .base (.tup f)
  | dic xs =>
    obtain ⟨a, vs, rfl, f, _⟩ := h.dic c
    rcases f with f | ⟨o, f⟩
    · exact .base (.dK f)
    · exact .fDict f
  | ins _ _ => cases p
  | scr _ => cases p
  | exc _ _ _ _ => cases p
  | ptr _ => cases p
theorem kit_isa (p : d.plain = true) (T : Ty) : kitB d.tn T.nm = some (d.isa T) := by
  cases d <;> first | (cases p; done) | (cases T <;> kernel_rfl)
def isaD (T : Ty) (d : D) (k : B → Prop) : Prop := d.plain = true ∧ k (.fro (.bl (d.isa T)))
def dIsa (T : Ty) (U : DE) : DO := fun Γ Φ => U Γ fun d Γ' => isaD T d fun b => Φ b Γ'
theorem so_isa (T : Ty) {t : TE} {U : DE} (h : SQ K t U) : SO K (tCB (rIsi K) (tCons t (tCons (tC (.ty T.nm)) tNil))) (dIsa T U) := fun y Hf aS Γ σ H Φ Q A hT k =>
  h y Hf aS Γ σ H _ _ A hT fun d Γ1 v Hf1 H1 A1 e1 k1 r1 hT1 =>
    ⟨v, .ty T.nm, .type d.tn, .type T.nm, d.isa T, rfl, .ty _, prep_ty A1.co r1 hT1.1, kit_ty (kit_isa hT1.1 T), k (.fro (.bl _)) Γ1 _ Hf1 H1 A1 e1 k1 (Rep.bl _) trivial hT1.2⟩
/-- isinstance(x, (S, T)) -/
def dIsa2 (S T : Ty) (U : DE) : DO := fun Γ Φ => U Γ fun d Γ' => d.plain = true ∧ Φ (.fro (.bl (d.isa S || d.isa T))) Γ'
theorem so_isa2 (S T : Ty) {t : TE} {U : DE} (h : SQ K t U) : SO K (tCB (rIsiT K) (tCons t (tCons (tTup (tCons (tC (.ty S.nm)) (tCons (tC (.ty T.nm)) tNil))) tNil))) (dIsa2 S T U) := fun y Hf aS Γ σ H Φ Q A hT k =>
  h y Hf aS Γ σ H _ _ A hT fun d Γ1 v Hf1 H1 A1 e1 k1 r1 hT1 => ⟨by show 2 ≤ sizeLine; decide, fun p hp => by
    have q := A1.layK hp (o := .tup [.ty S.nm, .ty T.nm])
    have A2 := A1.lay (o := .tup [.ty S.nm, .ty T.nm]) hp
    refine ⟨v, p, _, .type d.tn, [.type S.nm, .type T.nm], (d.isa S || d.isa T), rfl, upd_same, .cons (.ty _) (.cons (.ty _) .nil), prep_ty A2.co (r1.mono q.1 q.2) hT1.1, ?_, k (.fro (.bl _)) Γ1 _ _ _ A2 (e1.trans q.1) (k1.trans q.2) (Rep.bl _) trivial hT1.2⟩
    refine kitAny_cons (kit_ty (kit_isa hT1.1 S)) (fun e => ?_) fun e => by rw [e]; rfl
    refine kitAny_cons (kit_ty (kit_isa hT1.1 T)) (fun e' => ?_) fun e' => by rw [e, e']; rfl
    rw [e, e']
    exact kitAny_nil⟩
end

end
section
/-! DL3: tests, statements, loops, comprehensions, calls, defs. -/

section
variable {K : PySem.W.Frag} {y : Yn} {Hf Hf' : Hp} {aS : Option Addr} {Γ : Ev} {σ : L2.St} {H H' : Hp} {S : Option Sto} {v : V} {d : D} {r : B}

/-! ### tests -/
def blB (Φ : Bool → Ev → Prop) (Γ : Ev) : B → Prop
  | .fro (.bl c) => Φ c Γ
  | _ => False
def dTest (T : DO) : DT := fun Γ Φ => T Γ fun b Γ' => blB Φ Γ' b
theorem st_test {t : TE} {T : DO} (h : SO K t T) : ST K (tTest t) (dTest T) := fun y Hf aS Γ σ H Φ Q A hT k =>
  h y Hf aS Γ σ H _ _ A hT fun b Γ1 v Hf1 H1 A1 e1 k1 hb _ hΦ => by
    cases b with
    | fro d =>
      cases d with
      | bl c =>
        cases hb
        exact ⟨c, rfl, k c Γ1 Hf1 H1 A1 e1 k1 hΦ⟩
      | _ => exact hΦ.elim
    | own o => exact hΦ.elim
    | lk o => exact hΦ.elim
    | sto => exact hΦ.elim
theorem st_val {t : TE} {T : DO} (h : SO K t T) : ST K (tB t) (dTest T) := st_test h
def truD (d : D) (k : Bool → Prop) : Prop := match d with
  | .non => k false
  | .bl b => k b
  | .int i => k (i != 0)
  | .str x => x.length ≤ sizeLine ∧ k ((x.length : Int) != 0)
  | .lst xs => k (!xs.isEmpty)
  | .tup xs => k (!xs.isEmpty)
  | _ => False
theorem repL_emp {vs : List V} {ds : List D} (h : RepL K H vs ds) : (!vs.isEmpty) = !ds.isEmpty := by cases h <;> rfl
theorem repK_emp {vs : List (Key × V)} {ds : List (Key × D)} (h : RepK K H vs ds) : (!vs.isEmpty) = !ds.isEmpty := by cases h <;> rfl
theorem truV_of {k : Bool → Prop} (c : Co y Hf aS S H) (h : PRep K Hf aS H v d) (ht : truD d k) : ∃ b, TruV K v H b ∧ k b := by
  cases d with
  | non => have e := h.non; subst e; exact ⟨_, rfl, ht⟩
  | bl b => have e := h.bl; subst e; exact ⟨_, rfl, ht⟩
  | int b => have e := h.int; subst e; exact ⟨_, rfl, ht⟩
  | str b => have e := h.str; subst e; exact ⟨_, ⟨ht.1, rfl⟩, ht.2⟩
  | lst xs => obtain ⟨a, vs, rfl, f, r, _⟩ := h.lst c; exact ⟨_, .inl ⟨vs, SqL.of f, (repL_emp r).symm⟩, ht⟩
  | tup xs => obtain ⟨a, vs, rfl, f, _, r⟩ := h.tup c; exact ⟨_, .inr (.inl ⟨vs, SqT.of f, (repL_emp r).symm⟩), ht⟩
  | dic xs => exact ht.elim
  | ins _ _ => exact ht.elim
  | scr _ => exact ht.elim
  | exc _ _ _ _ => exact ht.elim
  | ptr _ => exact ht.elim
def dTru (T : DE) : DT := fun Γ Φ => T Γ fun d Γ' => truD d fun b => Φ b Γ'
theorem st_tru {t : TE} {T : DE} (h : SQ K t T) : ST K (fun σ H Q => t σ H fun x H' => ∃ k, TruV K x H' k ∧ Q k H') (dTru T) := fun y Hf aS Γ σ H Φ Q A hT k =>
  h y Hf aS Γ σ H _ _ A hT fun d Γ1 v Hf1 H1 A1 e1 k1 hb hΦ => by
    obtain ⟨b, g, q⟩ := truV_of A1.co hb hΦ
    exact ⟨b, g, k b Γ1 Hf1 H1 A1 e1 k1 q⟩
def dAnd (T U : DT) : DT := fun Γ Φ => T Γ fun b Γ1 => (b = true → U Γ1 Φ) ∧ (b = false → Φ false Γ1)
def dOr (T U : DT) : DT := fun Γ Φ => T Γ fun b Γ1 => (b = true → Φ true Γ1) ∧ (b = false → U Γ1 Φ)
def dNot (T : DT) : DT := fun Γ Φ => T Γ fun b Γ1 => Φ (!b) Γ1
theorem st_and {t u : TT} {T U : DT} (h : ST K t T) (g : ST K u U) : ST K (tAnd t u) (dAnd T U) := fun y Hf aS Γ σ H Φ Q A hT k =>
  h y Hf aS Γ σ H _ _ A hT fun b Γ1 Hf1 H1 A1 e1 k1 hΦ => by
    cases b with
    | true => exact iteT (g y Hf1 aS Γ1 σ H1 _ _ A1 (hΦ.1 rfl) fun c Γ2 Hf2 H2 A2 e2 k2 q => k c Γ2 Hf2 H2 A2 (e1.trans e2) (k1.trans k2) q)
    | false => exact iteF (k false Γ1 Hf1 H1 A1 e1 k1 (hΦ.2 rfl))
theorem st_or {t u : TT} {T U : DT} (h : ST K t T) (g : ST K u U) : ST K (tOr t u) (dOr T U) := fun y Hf aS Γ σ H Φ Q A hT k =>
  h y Hf aS Γ σ H _ _ A hT fun b Γ1 Hf1 H1 A1 e1 k1 hΦ => by
    cases b with
    | true => exact iteT (k true Γ1 Hf1 H1 A1 e1 k1 (hΦ.1 rfl))
    | false => exact iteF (g y Hf1 aS Γ1 σ H1 _ _ A1 (hΦ.2 rfl) fun c Γ2 Hf2 H2 A2 e2 k2 q => k c Γ2 Hf2 H2 A2 (e1.trans e2) (k1.trans k2) q)
theorem st_not {t : TT} {T : DT} (h : ST K t T) : ST K (tNot t) (dNot T) := fun y Hf aS Γ σ H Φ Q A hT k =>
  h y Hf aS Γ σ H _ _ A hT fun b Γ1 Hf1 H1 A1 e1 k1 hΦ => k (!b) Γ1 Hf1 H1 A1 e1 k1 hΦ
/-- and, or, not as values -/
def dAndV (T : DE) (U : DO) : DO := fun Γ Φ => T Γ fun d Γ1 => truD d fun b => (b = true → U Γ1 Φ) ∧ (b = false → Φ (.fro d) Γ1)
def dOrV (T : DE) (U : DO) : DO := fun Γ Φ => T Γ fun d Γ1 => truD d fun b => (b = true → Φ (.fro d) Γ1) ∧ (b = false → U Γ1 Φ)
def dNotV (T : DE) : DO := fun Γ Φ => T Γ fun d Γ1 => truD d fun b => Φ (.fro (.bl (!b))) Γ1
theorem so_and {t u : TE} {T : DE} {U : DO} (h : SE K t T) (g : SO K u U) : SO K (tAndT K t u) (dAndV T U) := fun y Hf aS Γ σ H Φ Q A hT k =>
  h y Hf aS Γ σ H _ _ A hT fun d Γ1 v Hf1 H1 A1 e1 k1 r1 hΦ => by
    obtain ⟨b, z, q⟩ := truV_of A1.co (.inl r1) hΦ
    refine ⟨b, z, ?_⟩
    cases b with
    | true => exact iteT (g y Hf1 aS Γ1 σ H1 _ _ A1 (q.1 rfl) fun c Γ2 w Hf2 H2 A2 e2 k2 hb ha q => k c Γ2 w Hf2 H2 A2 (e1.trans e2) (k1.trans k2) hb ha q)
    | false => exact iteF (k (.fro d) Γ1 v Hf1 H1 A1 e1 k1 r1 trivial (q.2 rfl))
theorem so_or {t u : TE} {T : DE} {U : DO} (h : SE K t T) (g : SO K u U) : SO K (tOrT K t u) (dOrV T U) := fun y Hf aS Γ σ H Φ Q A hT k =>
  h y Hf aS Γ σ H _ _ A hT fun d Γ1 v Hf1 H1 A1 e1 k1 r1 hΦ => by
    obtain ⟨b, z, q⟩ := truV_of A1.co (.inl r1) hΦ
    refine ⟨b, z, ?_⟩
    cases b with
    | true => exact iteT (k (.fro d) Γ1 v Hf1 H1 A1 e1 k1 r1 trivial (q.1 rfl))
    | false => exact iteF (g y Hf1 aS Γ1 σ H1 _ _ A1 (q.2 rfl) fun c Γ2 w Hf2 H2 A2 e2 k2 hb ha q => k c Γ2 w Hf2 H2 A2 (e1.trans e2) (k1.trans k2) hb ha q)
theorem so_not {t : TE} {T : DE} (h : SQ K t T) : SO K (tNotT K t) (dNotV T) := fun y Hf aS Γ σ H Φ Q A hT k =>
  h y Hf aS Γ σ H _ _ A hT fun d Γ1 v Hf1 H1 A1 e1 k1 r1 hΦ => by
    obtain ⟨b, z, q⟩ := truV_of A1.co r1 hΦ
    exact ⟨b, z, k (.fro _) Γ1 _ Hf1 H1 A1 e1 k1 (Rep.bl _) trivial q⟩
def dIfE (C : DT) (T U : DO) : DO := fun Γ Φ => C Γ fun b Γ1 => (b = true → T Γ1 Φ) ∧ (b = false → U Γ1 Φ)
theorem so_ifE {c : TT} {C : DT} {t u : TE} {T U : DO} (hc : ST K c C) (h : SO K t T) (g : SO K u U) : SO K (tIf c t u) (dIfE C T U) := fun y Hf aS Γ σ H Φ Q A hT k =>
  hc y Hf aS Γ σ H _ _ A hT fun b Γ1 Hf1 H1 A1 e1 k1 q => by
    cases b with
    | true => exact iteT (h y Hf1 aS Γ1 σ H1 _ _ A1 (q.1 rfl) fun c Γ2 w Hf2 H2 A2 e2 k2 hb ha q => k c Γ2 w Hf2 H2 A2 (e1.trans e2) (k1.trans k2) hb ha q)
    | false => exact iteF (g y Hf1 aS Γ1 σ H1 _ _ A1 (q.2 rfl) fun c Γ2 w Hf2 H2 A2 e2 k2 hb ha q => k c Γ2 w Hf2 H2 A2 (e1.trans e2) (k1.trans k2) hb ha q)

/-! ### statements -/
def dNext : DS := fun De Γ => De.nx Γ
def dSeq (T U : DS) : DS := fun De Γ => T { De with nx := fun Γ' => U De Γ' } Γ
def dIf (C : DT) (T U : DS) : DS := fun De Γ => C Γ fun b Γ1 => (b = true → T De Γ1) ∧ (b = false → U De Γ1)
def dSet (i : Nat) (T : DO) : DS := fun De Γ => T Γ fun b Γ1 => De.nx (Γ1.set i b)
def dRet (T : DO) : DS := fun De Γ => T Γ fun b Γ1 => De.rt b Γ1.S
def dRetN : DS := fun De Γ => De.rt (.fro .non) Γ.S
def dDrop (T : DO) : DS := fun De Γ => T Γ fun _ Γ1 => De.nx Γ1
def dBrk : DS := fun De Γ => De.bk Γ
def dCnt : DS := fun De Γ => De.ct Γ
theorem ss_next : SS K ω tNext dNext := fun y Hf aS Γ σ H De Dn A hT L => L.nx Hf aS Γ σ H A hT
theorem ss_brk : SS K ω tBreak dBrk := fun y Hf aS Γ σ H De Dn A hT L => L.bk Hf aS Γ σ H A hT
theorem ss_cnt : SS K ω tCont dCnt := fun y Hf aS Γ σ H De Dn A hT L => L.ct Hf aS Γ σ H A hT
theorem ss_seq {t u : TS} {T U : DS} (h : SS K ω t T) (g : SS K ω u U) : SS K ω (tSeq t u) (dSeq T U) := fun y Hf aS Γ σ H De Dn A hT L =>
  h y Hf aS Γ σ H _ _ A hT ⟨fun Hf1 aS1 Γ1 σ1 H1 A1 q => g y Hf1 aS1 Γ1 σ1 H1 De Dn A1 q L, L.rt, L.bk, L.ct, L.ex⟩
theorem ss_if {c : TT} {C : DT} {t u : TS} {T U : DS} (hc : ST K c C) (h : SS K ω t T) (g : SS K ω u U) : SS K ω (tIfS c t u) (dIf C T U) := fun y Hf aS Γ σ H De Dn A hT L =>
  hc y Hf aS Γ σ H _ _ A hT fun b Γ1 Hf1 H1 A1 e1 k1 q => by
    cases b with
    | true => exact iteT (h y Hf1 aS Γ1 σ H1 De Dn A1 (q.1 rfl) L)
    | false => exact iteF (g y Hf1 aS Γ1 σ H1 De Dn A1 (q.2 rfl) L)
theorem ss_set (i : Nat) {t : TE} {T : DO} (h : SO K t T) : SS K ω (tAsg t (gName i)) (dSet i T) := fun y Hf aS Γ σ H De Dn A hT L =>
  h y Hf aS Γ σ H _ _ A hT fun b Γ1 v Hf1 H1 A1 e1 k1 hb ha q => L.nx Hf1 aS _ _ H1 (A1.store hb ha) q
theorem ss_ret {t : TE} {T : DO} (h : SO K t T) : SS K ω (tRet t) (dRet T) := fun y Hf aS Γ σ H De Dn A hT L =>
  h y Hf aS Γ σ H _ _ A hT fun b Γ1 v Hf1 H1 A1 e1 k1 hb ha q => L.rt Hf1 aS Γ1.S H1 v b A1.co hb q
theorem ss_retN : SS K ω tRetN dRetN := fun y Hf aS Γ σ H De Dn A hT L => L.rt Hf aS Γ.S H .non (.fro .non) A.co Rep.non hT
theorem ss_drop {t : TE} {T : DO} (h : SO K t T) : SS K ω (tDrop t) (dDrop T) := fun y Hf aS Γ σ H De Dn A hT L =>
  h y Hf aS Γ σ H _ _ A hT fun b Γ1 v Hf1 H1 A1 e1 k1 hb ha q => L.nx Hf1 aS Γ1 σ H1 A1 q
/-- an own object is changed -/
theorem Sl.put {sl : List (Option B)} (A : Sl K y Hf aS sl σ H) {i : Nat} {o o' : O} {a : Addr} {u : HO} (hi : sl[i]? = some (some (B.own o))) (hs : σ[i]? = some (some (V.ref a))) (new : OwnAt K Hf (upd H a u) a o') (h2 : Hf a = none) (h3 : y.H0 a = none) (h4 : aS ≠ some a) :
    Sl K y Hf aS (sl.set i (some (.own o'))) σ (upd H a u) := by
  have q : ∀ b w, b ≠ a → H b = some w → upd H a u b = some w := fun b w n h => by rw [upd_ne n]; exact h
  refine ⟨by rw [List.length_set]; exact A.len, fun j b e => ?_, fun j k b oj ok e2 e3 g2 g3 => ?_⟩
  · rcases get_set_some e with ⟨hij, e9⟩ | ⟨n, e9⟩
    · subst hij
      have e9 := Option.some.inj e9
      subst e9
      exact ⟨_, hs, a, rfl, new, h2, h3, h4⟩
    · obtain ⟨v, hv, hb⟩ := A.slot j b e9
      refine ⟨v, hv, ?_⟩
      cases b with
      | fro d => exact hb
      | sto => exact hb
      | lk d => exact hb
      | own o2 =>
        obtain ⟨b2, e4, g1, g2, g3, g4⟩ := hb
        subst e4
        have nb : b2 ≠ a := fun z => n (A.sep i j a o o2 hi e9 hs (by rw [hv, z]))
        exact ⟨b2, rfl, g1.mono (Same.refl _) fun w hw => q b2 w nb hw, g2, g3, g4⟩
  · have own_of : ∀ {j : Nat} {oj : O}, (sl.set i (some (.own o')))[j]? = some (some (B.own oj)) → ∃ oj', sl[j]? = some (some (B.own oj')) := fun {j oj} e => by
      rcases get_set_some e with ⟨rfl, _⟩ | ⟨_, e⟩
      · exact ⟨o, hi⟩
      · exact ⟨oj, e⟩
    obtain ⟨oj', f2⟩ := own_of e2
    obtain ⟨ok', f3⟩ := own_of e3
    exact A.sep j k b oj' ok' f2 f3 g2 g3
theorem Co.put1 (c : Co y Hf aS S H) {a : Addr} {u : HO} (h2 : Hf a = none) (h3 : y.H0 a = none) (h4 : aS ≠ some a) : Co y Hf aS S (upd H a u) := by
  have q : ∀ b w, b ≠ a → H b = some w → upd H a u b = some w := fun b w n h => by rw [upd_ne n]; exact h
  refine ⟨fun b w h n => q b w (ne_of_none h h3) (c.kept b w h n), fun b w h => q b w (ne_of_none h h2) (c.frz b w h), c.mon, c.new, ?_, c.st0, c.s00⟩
  have z := c.sto
  revert z
  cases aS with
  | none => cases S <;> exact id
  | some s =>
    cases S with
    | none => exact id
    | some S =>
      rintro ⟨⟨cc, z1, z2⟩, z3⟩
      exact ⟨⟨cc, q _ _ (fun e => h4 (by rw [e])) z1, z2⟩, z3⟩
theorem At.put (A : At K y Hf aS Γ σ H) {i : Nat} {o o' : O} {a : Addr} {u : HO} (hi : Γ.sl[i]? = some (some (B.own o))) (hs : σ[i]? = some (some (V.ref a))) (new : OwnAt K Hf (upd H a u) a o') :
    At K y Hf aS (Γ.set i (.own o')) σ (upd H a u) := by
  obtain ⟨v, hv, a', e1, h1, h2, h3, h4⟩ := A.slot i _ hi
  rw [hs] at hv
  have hv := Option.some.inj (Option.some.inj hv)
  subst hv
  have e1 := V.ref.inj e1
  subst e1
  have hl := (List.getElem?_eq_some_iff.mp hi).1
  have e1 : (Γ.set i (.own o')).all = Γ.all.set i (some (.own o')) := (List.set_append_left i _ hl).symm
  refine ⟨A.co.put1 h2 h3 h4, ?_⟩
  rw [e1]
  exact A.sl.put (Ev.at_ hi) (by rw [A.val hl]; exact hs) new h2 h3 h4
/-- x.append(e), x one's own -/
def dApp (i : Nat) (T : DE) : DS := fun De Γ => match Γ.sl[i]? with
  | some (some (.own (.lst _))) => T Γ fun d Γ1 => match Γ1.sl[i]? with
    | some (some (.own (.lst ds))) => ds.length < sizeLine ∧ De.nx (Γ1.set i (.own (.lst (ds ++ [d]))))
    | _ => False
  | _ => False
theorem ss_app (i : Nat) {t : TE} {T : DE} (h : SE K t T) : SS K ω (tDrop (tBM K "list" rAppend (tVar i) (tCons t tNil))) (dApp i T) := by
  intro y Hf aS Γ σ H De Dn A hT L
  unfold dApp at hT
  split at hT
  · rename_i ds0 e0
    obtain ⟨v, hv, a, rfl, ⟨vs0, g1, _⟩, g2, g3, g4⟩ := A.slot i _ e0
    refine ⟨_, hv, .inl ⟨rfl, vs0, .inl (.inl g1)⟩, ?_⟩
    refine h y Hf aS Γ σ H _ _ A hT fun d Γ1 w Hf1 H1 A1 e1 k1 r1 hT1 => ?_
    split at hT1
    · rename_i ds e
      obtain ⟨v1, hv1, a1, rfl, ⟨vs, f1, f2⟩, f3, f4, f5⟩ := A1.slot i _ e
      rw [hv] at hv1
      have hv1 := V.ref.inj (Option.some.inj (Option.some.inj hv1))
      subst hv1
      refine ⟨a, vs, w, rfl, rfl, f1, by rw [f2.len]; exact hT1.1, L.nx Hf1 aS _ σ _ (A1.put (o' := .lst _) (u := .lst (vs ++ [w])) e hv ⟨_, upd_same, f2.app (.cons r1 .nil)⟩) hT1.2⟩
    · exact hT1.elim
  · exact hT.elim
/-- x.pop(), x one's own -/
def dPop (i : Nat) : DS := fun De Γ => match Γ.sl[i]? with
  | some (some (.own (.lst ds))) => ds ≠ [] ∧ De.nx (Γ.set i (.own (.lst ds.dropLast)))
  | _ => False
theorem ss_pop (i : Nat) : SS K ω (tDrop (tBM0 K "list" rPop (tVar i))) (dPop i) := by
  intro y Hf aS Γ σ H De Dn A hT L
  unfold dPop at hT
  split at hT
  · rename_i ds e
    obtain ⟨v, hv, a, rfl, ⟨vs, g1, g5⟩, g2, g3, g4⟩ := A.slot i _ e
    have hl := g5.len
    have hpos : 0 < vs.length := by
      rw [hl]
      exact List.length_pos_iff.mpr hT.1
    refine ⟨_, hv, .inl ⟨rfl, vs, .inl (.inl g1)⟩, a, vs, vs[vs.length - 1]'(by omega), rfl, rfl, g1, List.getElem?_eq_getElem _, ?_⟩
    exact L.nx Hf aS _ σ _ (A.put (o' := .lst _) (u := .lst vs.dropLast) e hv ⟨_, upd_same, g5.dropLast⟩) hT.2
  · exact hT.elim
/-- x[k] = e, x one's own -/
def dPutL (i : Nat) (T U : DE) : DS := fun De Γ => T Γ fun d Γ1 => match Γ1.sl[i]? with
  | some (some (.own (.lst _))) => U Γ1 fun u Γ2 => match Γ2.sl[i]?, u with
    | some (some (.own (.lst ds))), .int k => ∃ j, ixN ds.length k = some j ∧ De.nx (Γ2.set i (.own (.lst (ds.set j d))))
    | _, _ => False
  | _ => False
theorem ss_putL (i : Nat) {t u : TE} {T U : DE} (h : SE K t T) (g : SQ K u U) : SS K ω (tAsg t (gSub (tVar i) u rSetL)) (dPutL i T U) := by
  intro y Hf aS Γ σ H De Dn A hT L
  refine h y Hf aS Γ σ H _ _ A hT fun d Γ1 w Hf1 H1 A1 e1 k1 r1 hT1 => ?_
  split at hT1
  · rename_i ds0 e0
    obtain ⟨v, hv, a, rfl, ⟨vs0, g1, _⟩, g2, g3, g4⟩ := A1.slot i _ e0
    refine ⟨_, hv, ?_⟩
    refine g y Hf1 aS Γ1 σ H1 _ _ A1 hT1 fun z Γ2 x Hf2 H2 A2 e2 k2 r2 hT2 => ?_
    split at hT2
    · rename_i ds k e
      obtain ⟨j, hj, hT2⟩ := hT2
      obtain ⟨v1, hv1, a1, rfl, ⟨vs, f1, f2⟩, f3, f4, f5⟩ := A2.slot i _ e
      rw [hv] at hv1
      have hv1 := V.ref.inj (Option.some.inj (Option.some.inj hv1))
      subst hv1
      have ez := r2.int
      subst ez
      refine ⟨a, vs, k, j, rfl, rfl, f1, by rw [f2.len]; exact hj, L.nx Hf2 aS _ σ _ (A2.put (o' := .lst _) (u := .lst (vs.set j w)) e hv ⟨_, upd_same, RepL.set (r1.mono e2) j f2⟩) hT2⟩
    · exact hT2.elim
  · exact hT1.elim
/-- x op= e -/
def dAug (i : Nat) (f : D → D → (D → Prop) → Prop) (T : DE) : DS := fun De Γ => match Γ.sl[i]? with
  | some (some (.fro d)) => T Γ fun e Γ1 => f d e fun z => De.nx (Γ1.set i (.fro z))
  | _ => False
def augI (f : Int → Int → Int) (d e : D) (k : D → Prop) : Prop := match d, e with
  | .int i, .int j => k (.int (f i j))
  | _, _ => False
theorem ss_aug (i : Nat) {f : Int → Int → Int} {t : TE} {T : DE} (h : SE K t T) : SS K ω (tAug i t (ipI f)) (dAug i (augI f) T) := by
  intro y Hf aS Γ σ H De Dn A hT L
  unfold dAug at hT
  split at hT
  · rename_i d e
    obtain ⟨v, hv, hb⟩ := A.slot i _ e
    refine ⟨v, hv, ?_⟩
    refine h y Hf aS Γ σ H _ _ A hT fun z Γ1 w Hf1 H1 A1 e1 k1 r1 hT1 => ?_
    unfold augI at hT1
    split at hT1
    · cases hb
      cases r1
      exact ⟨_, _, rfl, rfl, L.nx Hf1 aS _ _ H1 (A1.store (r := .fro (.int _)) (Rep.int _) trivial) hT1⟩
    · exact hT1.elim
  · exact hT.elim

/-! ### what is walked -/
/-- what was there at y0's entry and stays was there at y's and stays -/
def Ko (y0 y : Yn) : Prop := ∀ a o, y0.H0 a = some o → y0.a0 ≠ some a → y.H0 a = some o ∧ y.a0 ≠ some a
theorem Ko.refl (y : Yn) : Ko y y := fun _ _ h n => ⟨h, n⟩
structure ItOk (K : PySem.W.Frag) (y0 : Yn) (Hf1 : Hp) (J : It) (ds : List D) : Prop where
  go : ∀ (i : Nat) y Hf aS Γ σ H, At K y Hf aS Γ σ H → Same Hf1 Hf → Ko y0 y → i < ds.length → J.go i H ∧ ∀ x H', J.yld i H x H' → ∃ Hf', At K y Hf' aS Γ σ H' ∧ Same Hf Hf' ∧ Keep aS H H' ∧ ∃ d, ds[i]? = some d ∧ Rep K Hf' x d
  stop : ∀ y Hf aS Γ σ H, At K y Hf aS Γ σ H → Same Hf1 Hf → Ko y0 y → J.stop ds.length H
def SI (K : PySem.W.Frag) (wi : TI) (W : DA) : Prop := ∀ y Hf aS Γ σ H Φ R, At K y Hf aS Γ σ H → W Γ Φ →
  (∀ ds Γ' J Hf' H', At K y Hf' aS Γ' σ H' → Same Hf Hf' → Keep aS H H' → ItOk K y Hf' J ds → Φ ds Γ' → R J H') → wi σ H R
structure PDI (X : Cx) (tg iter : Expr) (wi : TI) (W : DA) : Prop where
  p : PI X tg iter wi
  s : SI X.K wi W
def dIL (T : DE) : DA := fun Γ Φ => T Γ fun d Γ1 => match d with
  | .lst ds => Φ ds Γ1
  | .scr ns => Φ (ns.map D.int) Γ1
  | _ => False
theorem si_list {t : TE} {T : DE} (h : SE K t T) : SI K (iList K t) (dIL T) := fun y Hf aS Γ σ H Φ R A hT k =>
  h y Hf aS Γ σ H _ _ A hT fun d Γ1 v Hf1 H1 A1 e1 k1 r1 hT1 => by
    have fin : ∀ {a : Addr} {vs : List V} {ds : List D}, (∀ H2 : Hp, Same Hf1 H2 → SqL K H2 a vs) → RepL K Hf1 vs ds → ItOk K y Hf1 (Itl K a) ds := fun {a vs ds} hs r => by
      refine ⟨fun i y' Hf2 aS2 Γ2 σ2 H2 A2 e2 _ hi => ?_, fun y' Hf2 aS2 Γ2 σ2 H2 A2 e2 _ => ⟨vs, hs H2 (e2.trans A2.co.frz), by rw [r.len]; exact Nat.le_refl _⟩⟩
      have hq := hs H2 (e2.trans A2.co.frz)
      have hd : ds[i]? = some ds[i] := List.getElem?_eq_getElem hi
      obtain ⟨w, hw, hr⟩ := r.get hd
      refine ⟨⟨vs, w, hq, hw⟩, fun x H' hy => ?_⟩
      obtain ⟨rfl, hx⟩ := hy
      have := hx vs hq
      rw [hw] at this
      have := Option.some.inj this
      subst this
      exact ⟨Hf2, A2, Same.refl _, Keep.refl _ _, _, hd, hr.mono e2⟩
    cases r1 with
    | @lst a vs ds h1 h2 =>
      exact ⟨a, rfl, ⟨vs, SqL.of (A1.co.frz _ _ h1)⟩, k ds Γ1 _ Hf1 H1 A1 e1 k1 (fin (fun H2 e2 => SqL.of (e2 _ _ h1)) h2) hT1⟩
    | @scr a ns h1 =>
      exact ⟨a, rfl, ⟨_, same_sq A1.co.frz h1⟩, k (ns.map D.int) Γ1 _ Hf1 H1 A1 e1 k1 (fin (fun H2 e2 => same_sq e2 h1) (RepL.ints ns)) hT1⟩
    | _ => exact hT1.elim
def dIT (T : DE) : DA := fun Γ Φ => T Γ fun d Γ1 => match d with
  | .tup ds => Φ ds Γ1
  | _ => False
theorem si_tup {t : TE} {T : DE} (h : SE K t T) : SI K (iTup K t) (dIT T) := fun y Hf aS Γ σ H Φ R A hT k =>
  h y Hf aS Γ σ H _ _ A hT fun d Γ1 v Hf1 H1 A1 e1 k1 r1 hT1 => by
    cases r1 with
    | @tup a vs ds h1 r =>
      refine ⟨a, rfl, ⟨vs, SqT.of (A1.co.frz _ _ h1)⟩, k ds Γ1 _ Hf1 H1 A1 e1 k1 ?_ hT1⟩
      refine ⟨fun i y' Hf2 aS2 Γ2 σ2 H2 A2 e2 _ hi => ?_, fun y' Hf2 aS2 Γ2 σ2 H2 A2 e2 _ => ⟨vs, SqT.of (A2.co.frz _ _ (e2 _ _ h1)), by rw [r.len]; exact Nat.le_refl _⟩⟩
      have hq : SqT K H2 a vs := SqT.of (A2.co.frz _ _ (e2 _ _ h1))
      have hd : ds[i]? = some ds[i] := List.getElem?_eq_getElem hi
      obtain ⟨w, hw, hr⟩ := r.get hd
      refine ⟨⟨vs, w, hq, hw⟩, fun x H' hy => ?_⟩
      obtain ⟨rfl, hx⟩ := hy
      have := hx vs hq
      rw [hw] at this
      have := Option.some.inj this
      subst this
      exact ⟨Hf2, A2, Same.refl _, Keep.refl _ _, _, hd, hr.mono e2⟩
    | _ => exact hT1.elim
theorem it_list {y0 : Yn} {a : Addr} {vs : List V} {ds : List D} {Hf1 : Hp} (hs : ∀ H2 : Hp, Same Hf1 H2 → SqL K H2 a vs) (r : RepL K Hf1 vs ds) : ItOk K y0 Hf1 (Itl K a) ds := by
  refine ⟨fun i y' Hf2 aS2 Γ2 σ2 H2 A2 e2 _ hi => ?_, fun y' Hf2 aS2 Γ2 σ2 H2 A2 e2 _ => ⟨vs, hs H2 (e2.trans A2.co.frz), by rw [r.len]; exact Nat.le_refl _⟩⟩
  have hq := hs H2 (e2.trans A2.co.frz)
  have hd : ds[i]? = some ds[i] := List.getElem?_eq_getElem hi
  obtain ⟨w, hw, hr⟩ := r.get hd
  refine ⟨⟨vs, w, hq, hw⟩, fun x H' hy => ?_⟩
  obtain ⟨rfl, hx⟩ := hy
  have := hx vs hq
  rw [hw] at this
  have := Option.some.inj this
  subst this
  exact ⟨Hf2, A2, Same.refl _, Keep.refl _ _, _, hd, hr.mono e2⟩
theorem it_tuple {y0 : Yn} {a : Addr} {vs : List V} {ds : List D} {Hf1 : Hp} (hs : ∀ H2 : Hp, Same Hf1 H2 → SqT K H2 a vs) (r : RepL K Hf1 vs ds) : ItOk K y0 Hf1 (Itt K a) ds := by
  refine ⟨fun i y' Hf2 aS2 Γ2 σ2 H2 A2 e2 _ hi => ?_, fun y' Hf2 aS2 Γ2 σ2 H2 A2 e2 _ => ⟨vs, hs H2 (e2.trans A2.co.frz), by rw [r.len]; exact Nat.le_refl _⟩⟩
  have hq := hs H2 (e2.trans A2.co.frz)
  have hd : ds[i]? = some ds[i] := List.getElem?_eq_getElem hi
  obtain ⟨w, hw, hr⟩ := r.get hd
  refine ⟨⟨vs, w, hq, hw⟩, fun x H' hy => ?_⟩
  obtain ⟨rfl, hx⟩ := hy
  have := hx vs hq
  rw [hw] at this
  have := Option.some.inj this
  subst this
  exact ⟨Hf2, A2, Same.refl _, Keep.refl _ _, _, hd, hr.mono e2⟩
def rngD (lo : Int) (n : Nat) : List D := (List.range n).map fun i => .int (lo + (i : Nat))
theorem it_rng {y0 : Yn} (lo : Int) (n : Nat) : ItOk K y0 Hf (Itr lo n) (rngD lo n) := by
  have hl : (rngD lo n).length = n := by unfold rngD; rw [List.length_map, List.length_range]
  refine ⟨fun i y' Hf2 aS2 Γ2 σ2 H2 A2 e2 _ hi => ?_, fun y' Hf2 aS2 Γ2 σ2 H2 A2 e2 _ => by rw [hl]; exact Nat.le_refl _⟩
  rw [hl] at hi
  refine ⟨hi, fun x H' hy => ?_⟩
  obtain ⟨rfl, rfl⟩ := hy
  refine ⟨Hf2, A2, Same.refl _, Keep.refl _ _, _, ?_, .int _⟩
  unfold rngD
  rw [List.getElem?_map, List.getElem?_range hi]
  rfl
def bnd (i : Int) : Prop := -(2 ^ 62) ≤ i ∧ i < 2 ^ 62
def dIR1 (T : DE) : DA := fun Γ Φ => T Γ fun d Γ1 => match d with
  | .int j => bnd j ∧ Φ (rngD 0 j.toNat) Γ1
  | _ => False
theorem si_rng1 {t : TE} {T : DE} (h : SQ K t T) : SI K (iRng1 (tCons t tNil)) (dIR1 T) := fun y Hf aS Γ σ H Φ R A hT k =>
  h y Hf aS Γ σ H _ _ A hT fun d Γ1 v Hf1 H1 A1 e1 k1 r1 hT1 => by
    cases d with
    | int j =>
      have e := r1.int
      subst e
      exact ⟨j, rfl, hT1.1.1, hT1.1.2, k _ Γ1 _ Hf1 H1 A1 e1 k1 (it_rng 0 j.toNat) hT1.2⟩
    | _ => exact hT1.elim
def dIR2 (T U : DE) : DA := fun Γ Φ => T Γ fun d Γ1 => U Γ1 fun e Γ2 => match d, e with
  | .int i, .int j => bnd i ∧ bnd j ∧ Φ (rngD i (j - i).toNat) Γ2
  | _, _ => False
theorem si_rng2 {t u : TE} {T U : DE} (h : SQ K t T) (g : SQ K u U) : SI K (iRng2 (tCons t (tCons u tNil))) (dIR2 T U) := fun y Hf aS Γ σ H Φ R A hT k =>
  h y Hf aS Γ σ H _ _ A hT fun d Γ1 v Hf1 H1 A1 e1 k1 r1 hT1 => g y Hf1 aS Γ1 σ H1 _ _ A1 hT1 fun e Γ2 w Hf2 H2 A2 e2 k2 r2 hT2 => by
    split at hT2
    · rename_i i j
      have q1 := r1.int
      have q2 := r2.int
      subst q1 q2
      exact ⟨i, j, rfl, ⟨hT2.1.1, hT2.1.2, hT2.2.1.1, hT2.2.1.2⟩, k _ Γ2 _ Hf2 H2 A2 (e1.trans e2) (k1.trans k2) (it_rng i (j - i).toNat) hT2.2.2⟩
    · exact hT2.elim

/-! ### targets -/
abbrev DG := D → Ev → (Ev → Prop) → Prop
def SG (K : PySem.W.Frag) (g : TG) (G : DG) (js : List Nat) : Prop := ∀ y Hf aS Γ σ H v d Φ Q, At K y Hf aS Γ σ H → Rep K Hf v d → G d Γ Φ →
  (∀ Γ' σ' Hf' H', At K y Hf' aS Γ' σ' H' → Same Hf Hf' → Keep aS H H' → (σ'.length = σ.length ∧ ∀ i, i ∉ js → σ'[i]? = σ[i]?) → Φ Γ' → Q σ' H') → g v σ H Q
structure PDG (X : Cx) (e : Expr) (g : TG) (G : DG) (js : List Nat) : Prop where
  p : PG X e g
  s : SG X.K g G js
def dGN (i : Nat) : DG := fun d Γ Φ => Φ (Γ.set i (.fro d))
theorem sg_name (i : Nat) : SG K (gName i) (dGN i) [i] := fun y Hf aS Γ σ H v d Φ Q A r hT k =>
  k _ _ Hf H (A.store (r := .fro d) r trivial) (Same.refl _) (Keep.refl _ _) ⟨List.length_set, fun j hj => List.getElem?_set_ne (fun e => hj (by rw [e]; exact List.mem_singleton.mpr rfl))⟩ hT
abbrev DGs := List D → Ev → (Ev → Prop) → Prop
def SGs (K : PySem.W.Frag) (g : TGs) (G : DGs) (js : List Nat) : Prop := ∀ y Hf aS Γ σ H vs ds Φ Q, At K y Hf aS Γ σ H → RepL K Hf vs ds → G ds Γ Φ →
  (∀ Γ' σ' Hf' H', At K y Hf' aS Γ' σ' H' → Same Hf Hf' → Keep aS H H' → (σ'.length = σ.length ∧ ∀ i, i ∉ js → σ'[i]? = σ[i]?) → Φ Γ' → Q σ' H') → g vs σ H Q
def dGNil : DGs := fun ds Γ Φ => match ds with
  | [] => Φ Γ
  | _ => False
def dGCons (G : DG) (Gs : DGs) : DGs := fun ds Γ Φ => match ds with
  | d :: r => G d Γ fun Γ' => Gs r Γ' Φ
  | [] => False
theorem sgs_nil : SGs K gNil dGNil [] := fun y Hf aS Γ σ H vs ds Φ Q A r hT k => by
  cases r with
  | nil => exact ⟨rfl, k Γ σ Hf H A (Same.refl _) (Keep.refl _ _) ⟨rfl, fun _ _ => rfl⟩ hT⟩
  | cons _ _ => exact hT.elim
theorem sgs_cons {g : TG} {gs : TGs} {G : DG} {Gs : DGs} {js ks : List Nat} (h : SG K g G js) (h2 : SGs K gs Gs ks) : SGs K (gCons g gs) (dGCons G Gs) (js ++ ks) := fun y Hf aS Γ σ H vs ds Φ Q A r hT k => by
  cases r with
  | nil => exact hT.elim
  | @cons v d vr dr r1 rr =>
    refine ⟨v, vr, rfl, h y Hf aS Γ σ H v d _ _ A r1 hT fun Γ1 σ1 Hf1 H1 A1 e1 k1 s1 hT1 => ?_⟩
    exact h2 y Hf1 aS Γ1 σ1 H1 vr dr _ _ A1 (rr.mono e1) hT1 fun Γ2 σ2 Hf2 H2 A2 e2 k2 s2 hT2 => k Γ2 σ2 Hf2 H2 A2 (e1.trans e2) (k1.trans k2) ⟨s2.1.trans s1.1, fun i hi => by
      rw [List.mem_append, not_or] at hi
      rw [s2.2 i hi.2, s1.2 i hi.1]⟩ hT2
def dGT (n : Nat) (Gs : DGs) : DG := fun d Γ Φ => match d with
  | .tup ds => ds.length = n ∧ Gs ds Γ Φ
  | _ => False
theorem sg_tup {n : Nat} {gs : TGs} {Gs : DGs} {js : List Nat} (h : SGs K gs Gs js) : SG K (gTup K n gs) (dGT n Gs) js := fun y Hf aS Γ σ H v d Φ Q A r hT k => by
  cases r with
  | @tup a vs ds h1 h2 => exact ⟨a, vs, rfl, SqT.of (A.co.frz _ _ h1), by rw [h2.len]; exact hT.1, h y Hf aS Γ σ H vs ds Φ Q A h2 hT.2 k⟩
  | _ => exact hT.elim
/-- target = e, the target a tuple -/
def dAsgG (T : DE) (G : DG) : DS := fun De Γ => T Γ fun d Γ1 => G d Γ1 De.nx
theorem ss_asgG {t : TE} {T : DE} {g : TG} {G : DG} {js : List Nat} (h : SE K t T) (hg : SG K g G js) : SS K ω (tAsg t g) (dAsgG T G) := fun y Hf aS Γ σ H De Dn A hT L =>
  h y Hf aS Γ σ H _ _ A hT fun d Γ1 v Hf1 H1 A1 e1 k1 r1 hT1 => hg y Hf1 aS Γ1 σ H1 v d _ _ A1 r1 hT1 fun Γ2 σ2 Hf2 H2 A2 e2 k2 _ hT2 => L.nx Hf2 aS Γ2 σ2 H2 A2 hT2

/-! ### for -/
def forGo0 (G : DG) (Tb : DS) (De : En) : List D → Ev → Prop
  | [], Γ => De.nx Γ
  | d :: ds, Γ => G d Γ fun Γ1 => Tb { nx := fun Γ2 => forGo0 G Tb De ds Γ2, rt := De.rt, bk := De.nx, ct := fun Γ2 => forGo0 G Tb De ds Γ2, ex := De.ex } Γ1
@[irreducible] def forGo (G : DG) (Tb : DS) (De : En) : List D → Ev → Prop := forGo0 G Tb De
theorem forGo_nil {G : DG} {Tb : DS} {De : En} {Γ : Ev} : forGo G Tb De [] Γ = De.nx Γ := by unfold forGo; rfl
theorem forGo_cons {G : DG} {Tb : DS} {De : En} {d : D} {ds : List D} {Γ : Ev} : forGo G Tb De (d :: ds) Γ = G d Γ fun Γ1 => Tb { nx := fun Γ2 => forGo G Tb De ds Γ2, rt := De.rt, bk := De.nx, ct := fun Γ2 => forGo G Tb De ds Γ2, ex := De.ex } Γ1 := by unfold forGo; rfl
def dFor (W : DA) (G : DG) (Tb : DS) : DS := fun De Γ => W Γ fun ds Γ1 => forGo G Tb De ds Γ1
/-- the frozen part is taken as the entry's -/
theorem At.re (A : At K y Hf aS Γ σ H) : At K { y with Hf0 := Hf } Hf aS Γ σ H :=
  ⟨⟨A.co.kept, A.co.frz, Same.refl _, fun a o h => .inl ⟨o, h⟩, A.co.sto, A.co.st0, A.co.s00⟩, ⟨A.sl.len, fun i b h => A.sl.slot i b h, A.sl.sep⟩⟩
theorem Co.unre {aS1 : Option Addr} {S1 : Option Sto} {H1 Hf1 : Hp} (c : Co y Hf1 aS1 S1 H1) (c' : Co { y with Hf0 := Hf1 } Hf aS S H) : Co y Hf aS S H :=
  ⟨c'.kept, c'.frz, c.mon.trans c'.mon, fun a o h => by
    rcases c'.new a o h with ⟨u, hu⟩ | h
    · exact c.new a u hu
    · exact .inr h, c'.sto, c'.st0, c'.s00⟩
theorem BAt.unre {Hf1 : Hp} {b : B} (h : BAt K { y with Hf0 := Hf1 } Hf aS H v b) : BAt K y Hf aS H v b := by
  cases b with
  | fro d => exact h
  | own o => exact h
  | sto => exact h
  | lk d => exact h
theorem At.unre {aS1 : Option Addr} {S1 : Option Sto} {H1 Hf1 : Hp} (c : Co y Hf1 aS1 S1 H1) (A : At K { y with Hf0 := Hf1 } Hf aS Γ σ H) : At K y Hf aS Γ σ H :=
  ⟨c.unre A.co, ⟨A.sl.len, fun i b h => by
    obtain ⟨v, hv, hb⟩ := A.sl.slot i b h
    exact ⟨v, hv, hb.unre⟩, A.sl.sep⟩⟩
theorem ss_for {wi : TI} {W : DA} {g : TG} {G : DG} {js : List Nat} {tb : TS} {Tb : DS} (hw : SI K wi W) (hg : SG K g G js) (hb : SS K ω tb Tb) : SS K ω (tFor wi g tb) (dFor W G Tb) := by
  intro y Hf aS Γ σ H De Dn A hT L
  refine hw y Hf aS Γ σ H _ _ A hT fun ds Γ1 J Hf1 H1 A1 e1 k1 it hT1 => ?_
  have c1 := A1.co
  refine ⟨fun i m σ' H' => m = ds.length - i ∧ i ≤ ds.length ∧ ∃ Hf' aS' Γ', At K { y with Hf0 := Hf1 } Hf' aS' Γ' σ' H' ∧ forGo G Tb De (ds.drop i) Γ', ⟨ds.length, by simp, Nat.zero_le _, Hf1, aS, Γ1, A1.re, hT1⟩, ?_⟩
  rintro i m σ2 H2 ⟨rfl, hi, Hf2, aS2, Γ2, A2, hT2⟩
  have e2 : Same Hf1 Hf2 := A2.co.mon
  by_cases hlt : i < ds.length
  · have hd : ds.drop i = ds[i] :: ds.drop (i + 1) := List.drop_eq_getElem_cons hlt
    rw [hd, forGo_cons] at hT2
    obtain ⟨go, yl⟩ := it.go i _ Hf2 aS2 Γ2 σ2 H2 A2 e2 (Ko.refl y) hlt
    refine .inr ⟨go, fun σ' H' => ∃ Hf' aS' Γ', At K { y with Hf0 := Hf1 } Hf' aS' Γ' σ' H' ∧ forGo G Tb De (ds.drop (i + 1)) Γ', fun σ' H' q => ⟨ds.length - (i + 1), by omega, rfl, hlt, q⟩, fun x H3 hy => ?_⟩
    obtain ⟨Hf3, A3, e3, k3, d, hd2, r3⟩ := yl x H3 hy
    rw [List.getElem?_eq_getElem hlt] at hd2
    have hd2 := Option.some.inj hd2
    subst hd2
    refine hg _ Hf3 aS2 Γ2 σ2 H3 x _ _ _ A3 r3 hT2 fun Γ4 σ4 Hf4 H4 A4 e4 k4 _ hT4 => ?_
    refine hb _ Hf4 aS2 Γ4 σ4 H4 _ _ A4 hT4 ⟨fun Hf5 aS5 Γ5 σ5 H5 A5 q => ⟨Hf5, aS5, Γ5, A5, q⟩, fun Hf5 aS5 S5 H5 v5 r5 c5 b5 q => L.rt Hf5 aS5 S5 H5 v5 r5 (c1.unre c5) b5.unre q,
      fun Hf5 aS5 Γ5 σ5 H5 A5 q => L.nx Hf5 aS5 Γ5 σ5 H5 (At.unre c1 A5) q, fun Hf5 aS5 Γ5 σ5 H5 A5 q => ⟨Hf5, aS5, Γ5, A5, q⟩, fun Hf5 aS5 Γ5 σ5 H5 x C dd A5 m5 d5 q => L.ex Hf5 aS5 Γ5 σ5 H5 x C dd (At.unre c1 A5) m5 d5 q⟩
  · have e : i = ds.length := by omega
    subst e
    rw [List.drop_length, forGo_nil] at hT2
    exact .inl ⟨it.stop _ Hf2 aS2 Γ2 σ2 H2 A2 e2 (Ko.refl y), L.nx Hf2 aS2 Γ2 σ2 H2 (At.unre c1 A2) hT2⟩

/-! ### while -/
def whGo0 (C : DT) (Tb : DS) (De : En) : Nat → Ev → Prop
  | 0, _ => False
  | n + 1, Γ => C Γ fun b Γ1 => (b = true → Tb { nx := fun Γ2 => whGo0 C Tb De n Γ2, rt := De.rt, bk := De.nx, ct := fun Γ2 => whGo0 C Tb De n Γ2, ex := De.ex } Γ1) ∧ (b = false → De.nx Γ1)
@[irreducible] def whGo (C : DT) (Tb : DS) (De : En) : Nat → Ev → Prop := whGo0 C Tb De
theorem whGo_zero {C : DT} {Tb : DS} {De : En} {Γ : Ev} : whGo C Tb De 0 Γ = False := by unfold whGo; rfl
theorem whGo_succ {C : DT} {Tb : DS} {De : En} {n : Nat} {Γ : Ev} : whGo C Tb De (n + 1) Γ = C Γ fun b Γ1 => (b = true → Tb { nx := fun Γ2 => whGo C Tb De n Γ2, rt := De.rt, bk := De.nx, ct := fun Γ2 => whGo C Tb De n Γ2, ex := De.ex } Γ1) ∧ (b = false → De.nx Γ1) := by unfold whGo; rfl
def dWh (C : DT) (Tb : DS) : DS := fun De Γ => ∃ n, whGo C Tb De n Γ
theorem ss_while {c : TT} {C : DT} {tb : TS} {Tb : DS} (hc : ST K c C) (hb : SS K ω tb Tb) : SS K ω (tWhile c tb) (dWh C Tb) := by
  intro y Hf aS Γ σ H De Dn A hT L
  obtain ⟨n0, hT⟩ := hT
  refine ⟨fun n σ' H' => ∃ Hf' aS' Γ', At K y Hf' aS' Γ' σ' H' ∧ whGo C Tb De n Γ', ⟨n0, Hf, aS, Γ, A, hT⟩, ?_⟩
  rintro n σ1 H1 ⟨Hf1, aS1, Γ1, A1, hT1⟩
  cases n with
  | zero =>
    rw [whGo_zero] at hT1
    exact hT1.elim
  | succ n =>
    rw [whGo_succ] at hT1
    refine hc y Hf1 aS1 Γ1 σ1 H1 _ _ A1 hT1 fun b Γ2 Hf2 H2 A2 e2 k2 q => ?_
    cases b with
    | true =>
      refine iteT ⟨fun σ' H' => ∃ Hf' aS' Γ', At K y Hf' aS' Γ' σ' H' ∧ whGo C Tb De n Γ', fun σ' H' z => ⟨n, Nat.lt_succ_self n, z⟩, ?_⟩
      exact hb y Hf2 aS1 Γ2 σ1 H2 _ _ A2 (q.1 rfl) ⟨fun Hf5 aS5 Γ5 σ5 H5 A5 z => ⟨Hf5, aS5, Γ5, A5, z⟩, L.rt, fun Hf5 aS5 Γ5 σ5 H5 A5 z => L.nx Hf5 aS5 Γ5 σ5 H5 A5 z, fun Hf5 aS5 Γ5 σ5 H5 A5 z => ⟨Hf5, aS5, Γ5, A5, z⟩, L.ex⟩
    | false => exact iteF (L.nx Hf2 aS1 Γ2 σ1 H2 A2 (q.2 rfl))

/-! ### comprehensions -/
def wipeE (sl : List (Option B)) : List Nat → List (Option B)
  | [] => sl
  | v :: vs => (wipeE sl vs).set v none
theorem wipeE_len (sl : List (Option B)) : ∀ vs, (wipeE sl vs).length = sl.length
  | [] => rfl
  | v :: vs => by unfold wipeE; rw [List.length_set, wipeE_len sl vs]
theorem wipeE_get {sl : List (Option B)} {i : Nat} {b : B} : ∀ {vs : List Nat}, (wipeE sl vs)[i]? = some (some b) → sl[i]? = some (some b) ∧ i ∉ vs
  | [], h => ⟨h, by simp⟩
  | v :: vs, h => by
    unfold wipeE at h
    rcases get_set_some h with ⟨_, z⟩ | ⟨n, z⟩
    · cases z
    · obtain ⟨h1, h2⟩ := wipeE_get z
      exact ⟨h1, by simp only [List.mem_cons, not_or]; exact ⟨fun e => n e.symm, h2⟩⟩
theorem wipe_get_ne {σ : L2.St} {i : Nat} : ∀ {vs : List Nat}, i ∉ vs → (wipe σ vs)[i]? = σ[i]?
  | [], _ => rfl
  | v :: vs, h => by
    simp only [List.mem_cons, not_or] at h
    unfold wipe
    rw [List.getElem?_set_ne (fun e => h.1 e.symm)]
    exact wipe_get_ne h.2
theorem wipe_get_in {σ : L2.St} {i : Nat} (hi : i < σ.length) : ∀ {vs : List Nat}, i ∈ vs → (wipe σ vs)[i]? = some none
  | v :: vs, h => by
    unfold wipe
    by_cases e : v = i
    · subst e
      exact List.getElem?_set_self (by rw [wipe_length]; exact hi)
    · rw [List.getElem?_set_ne e]
      rcases List.mem_cons.mp h with h | h
      · exact absurd h.symm e
      · exact wipe_get_in hi h
theorem wipe_agree {σ σ' : L2.St} {vs js : List Nat} (hl : σ'.length = σ.length) (h : ∀ i, i ∉ js → σ'[i]? = (wipe σ vs)[i]?) (hj : ∀ j ∈ js, j ∈ vs) : wipe σ' vs = wipe σ vs := by
  apply List.ext_getElem?
  intro i
  by_cases hi : i ∈ vs
  · by_cases hb : i < σ.length
    · rw [wipe_get_in hb hi, wipe_get_in (by rw [hl]; exact hb) hi]
    · rw [List.getElem?_eq_none (by rw [wipe_length]; omega), List.getElem?_eq_none (by rw [wipe_length]; omega)]
  · rw [wipe_get_ne hi, h i fun z => hi (hj i z)]
/-- inside the block: the slots of its own names are empty, what is one's own is out of sight -/
theorem At.block (A : At K y Hf aS Γ σ H) (vs : List Nat) : At K ⟨H, Hf, aS⟩ Hf aS ⟨(wipeE Γ.sl vs).map froB, Γ.S⟩ (wipe σ vs) H := by
  have A1 := A.rebase
  refine At.mk2 (Γ := ⟨(wipeE Γ.sl vs).map froB, Γ.S⟩) (by rw [wipe_length, List.length_map, wipeE_len]; exact A.len) A1.co (fun i b h => ?_) (fun i j a oi oj h1 _ _ _ => absurd rfl ((fr_get h1).2 oi)) rfl
  obtain ⟨h, n⟩ := fr_get h
  obtain ⟨h, hv⟩ := wipeE_get h
  have h' : Γ.fr.sl[i]? = some (some b) := by
    show (Γ.sl.map froB)[i]? = _
    rw [List.getElem?_map, h]
    cases b with
    | fro d => rfl
    | own o => exact absurd rfl (n o)
    | sto => rfl
    | lk d => rfl
  obtain ⟨v, hσ, hb⟩ := A1.slot i b h'
  exact ⟨v, by rw [wipe_get_ne hv]; exact hσ, hb⟩
def lcGo0 (G : DG) (Tt : DT) (Te : DE) (sl0 : List (Option B)) : List D → List D → Option Sto → (List D → Option Sto → Prop) → Prop
  | [], acc, S, k => k acc S
  | d :: ds, acc, S, k => G d ⟨sl0, S⟩ fun Γ2 => Tt Γ2 fun b Γ3 => (b = true → Te Γ3 fun e Γ4 => acc.length < sizeLine ∧ lcGo0 G Tt Te sl0 ds (acc ++ [e]) Γ4.S k) ∧ (b = false → lcGo0 G Tt Te sl0 ds acc Γ3.S k)
@[irreducible] def lcGo (G : DG) (Tt : DT) (Te : DE) (sl0 : List (Option B)) : List D → List D → Option Sto → (List D → Option Sto → Prop) → Prop := lcGo0 G Tt Te sl0
theorem lcGo_nil {G : DG} {Tt : DT} {Te : DE} {sl0 : List (Option B)} {acc : List D} {S : Option Sto} {k : List D → Option Sto → Prop} : lcGo G Tt Te sl0 [] acc S k = k acc S := by unfold lcGo; rfl
theorem lcGo_cons {G : DG} {Tt : DT} {Te : DE} {sl0 : List (Option B)} {d : D} {ds acc : List D} {S : Option Sto} {k : List D → Option Sto → Prop} : lcGo G Tt Te sl0 (d :: ds) acc S k = G d ⟨sl0, S⟩ fun Γ2 => Tt Γ2 fun b Γ3 => (b = true → Te Γ3 fun e Γ4 => acc.length < sizeLine ∧ lcGo G Tt Te sl0 ds (acc ++ [e]) Γ4.S k) ∧ (b = false → lcGo G Tt Te sl0 ds acc Γ3.S k) := by unfold lcGo; rfl
def dLc (W : DA) (G : DG) (Tt : DT) (Te : DE) (vs : List Nat) : DO := fun Γ Φ => W Γ fun ds Γ1 =>
  lcGo G Tt Te ((wipeE Γ1.sl vs).map froB) ds [] Γ1.S fun acc S' => Φ (.own (.lst acc)) (Γ1.w (wipeE Γ1.sl vs) S')
def dYes : DT := fun Γ Φ => Φ true Γ
theorem st_yes : ST K tYes dYes := fun y Hf aS Γ σ H Φ Q A hT k => k true Γ Hf H A (Same.refl _) (Keep.refl _ _) hT
/-- at one state -/
theorem lc_at {wi : TI} {W : DA} {g : TG} {G : DG} {js : List Nat} {tt : TT} {Tt : DT} {te : TE} {Te : DE} {vs : List Nat} (A : At K y Hf aS Γ σ H)
    (hw : ∀ (Φ : List D → Ev → Prop) (R : It → Hp → Prop), W Γ Φ → (∀ ds Γ' J Hf' H', At K y Hf' aS Γ' σ H' → Same Hf Hf' → Keep aS H H' → ItOk K y Hf' J ds → Φ ds Γ' → R J H') → wi σ H R) (hg : SG K g G js) (ht : ST K tt Tt) (he : SE K te Te) (hj : ∀ j ∈ js, j ∈ vs)
    (Φ : B → Ev → Prop) (Q : VK) (hT : dLc W G Tt Te vs Γ Φ) (k : ∀ r Γ' v Hf' H', At K y Hf' aS Γ' σ H' → Same Hf Hf' → Keep aS H H' → BAt K y Hf' aS H' v r → Apart v r Γ' σ → Φ r Γ' → Q v H') : tLc wi g tt te vs σ H Q := by
  refine hw _ _ hT fun ds Γ1 J Hf1 H1 A1 e1 k1 it hT1 D hD => ?_
  have A2 : At K y Hf1 aS Γ1 σ (upd H1 D (.lst [])) := A1.layO hD
  have hs : aS ≠ some D := A1.co.sne hD
  have hfD : Hf1 D = none := A1.co.frzn hD
  -- the block's state
  have A3 := A2.block vs
  -- behind i items
  let Y1 : Yn := ⟨upd H1 D (.lst []), Hf1, aS⟩
  let P : Nat → Hp → Prop := fun i H' => ∃ Hf' S' acc vacc, Co { Y1 with H0 := fun a => if a = D then none else Y1.H0 a } Hf' aS S' H' ∧ Hf' D = none ∧ H' D = some (.lst vacc) ∧ RepL K Hf' vacc acc ∧
    lcGo G Tt Te ((wipeE Γ1.sl vs).map froB) (ds.drop i) acc S' fun acc S' => Φ (.own (.lst acc)) (Γ1.w (wipeE Γ1.sl vs) S')
  have cur : ∀ {Hf' : Hp} {S' : Option Sto} {H' : Hp} {vacc : List V}, Co { Y1 with H0 := fun a => if a = D then none else Y1.H0 a } Hf' aS S' H' → Hf' D = none → H' D = some (.lst vacc) →
      At K ⟨H', Hf', aS⟩ Hf' aS ⟨(wipeE Γ1.sl vs).map froB, S'⟩ (wipe σ vs) H' ∧ (∀ a o, H1 a = some o → aS ≠ some a → H' a = some o) := fun {Hf' S' H' vacc} c hn hv => by
    have keepH : ∀ a o, H1 a = some o → aS ≠ some a → H' a = some o := fun a o h n => by
      have na : a ≠ D := fun e => by rw [e, hD] at h; cases h
      refine c.kept a o ?_ n
      show (if a = D then none else upd H1 D (.lst []) a) = some o
      rw [if_neg na, upd_ne na]
      exact h
    refine ⟨At.mk2 (Γ := ⟨(wipeE Γ1.sl vs).map froB, S'⟩) A3.len ⟨fun a o h _ => h, c.frz, Same.refl _, fun a o h => .inl ⟨o, h⟩, c.sto, .inr rfl, fun a e n => ?_⟩ (fun i b h => ?_) A3.sep rfl, keepH⟩
    · have n' : aS = none := n
      rw [n'] at e
      cases e
    · obtain ⟨v, hσ, hb⟩ := A3.slot i b h
      refine ⟨v, hσ, ?_⟩
      cases b with
      | fro d => exact Rep.mono c.mon hb
      | own o => exact absurd rfl ((fr_get h).2 o)
      | sto => exact hb
      | lk d =>
        obtain ⟨w1, w2⟩ := wipeE_get (fr_get h).1
        obtain ⟨v', hσ', hb'⟩ := A1.slot i _ w1
        have hσ2 : (wipe σ vs)[i]? = some (some v) := hσ
        rw [wipe_get_ne w2, hσ'] at hσ2
        have hσ2 := Option.some.inj (Option.some.inj hσ2)
        subst hσ2
        rcases hb' with hb' | ⟨a, o, e1, e2, h1, h2⟩
        · exact .inl (hb'.mono c.mon)
        · obtain ⟨u, hu⟩ := h1.there
          have q := A1.co.was hu h2
          exact .inr ⟨a, o, e1, e2, h1.mono c.mon fun w hw => keepH a w (by rw [hu] at hw; rw [← hw]; exact q.1) q.2, q.2⟩
  have ko : ∀ {H' : Hp} {Hf' : Hp}, (∀ a o, H1 a = some o → aS ≠ some a → H' a = some o) → Ko y ⟨H', Hf', aS⟩ := fun {H' Hf'} kH a o h n =>
    let q := A1.co.was h n
    ⟨kH a o q.1 q.2, q.2⟩
  have turn : ∀ i H', i < ds.length → P i H' → ∀ x H2, J.yld i H' x H2 → g x (wipe σ vs) H2 fun σ2 H3 => wipe σ2 vs = wipe σ vs ∧ tt σ2 H3 fun b H4 =>
      if b = true then te σ2 H4 fun z H5 => ∃ acc, H5 D = some (.lst acc) ∧ acc.length < sizeLine ∧ P (i + 1) (upd H5 D (.lst (acc ++ [z]))) else P (i + 1) H4 := by
    rintro i H' hi ⟨Hf', S', acc, vacc, c, hn, hv, hr, hgo⟩ x H2 hy
    obtain ⟨A4, kH⟩ := cur c hn hv
    have hd : ds.drop i = ds[i] :: ds.drop (i + 1) := List.drop_eq_getElem_cons hi
    rw [hd, lcGo_cons] at hgo
    obtain ⟨_, yl⟩ := it.go i _ Hf' aS _ _ H' A4 c.mon (ko kH) hi
    obtain ⟨Hf2, A5, e5, k5, d, hd2, r5⟩ := yl x H2 hy
    rw [List.getElem?_eq_getElem hi] at hd2
    have hd2 := Option.some.inj hd2
    subst hd2
    -- what a later state of the block says of the outer one
    have out : ∀ {Hf6 : Hp} {Γ6 : Ev} {σ6 : L2.St} {H6 : Hp}, At K ⟨H', Hf', aS⟩ Hf6 aS Γ6 σ6 H6 → Co { Y1 with H0 := fun a => if a = D then none else Y1.H0 a } Hf6 aS Γ6.S H6 ∧ Hf6 D = none ∧ H6 D = some (.lst vacc) := fun {Hf6 Γ6 σ6 H6} A6 => by
      have c6 := A6.co
      refine ⟨⟨fun a o h n => ?_, c6.frz, c.mon.trans c6.mon, fun a o h => ?_, c6.sto, .inr rfl, fun a e n => ?_⟩, ?_, c6.kept D _ hv hs⟩
      · exact c6.kept a o (c.kept a o h n) n
      · rcases c6.new a o h with ⟨u, hu⟩ | hz
        · exact c.new a u hu
        · have hz : H' a = none := hz
          right
          show (if a = D then none else upd H1 D (.lst []) a) = none
          by_cases na : a = D
          · rw [if_pos na]
          · rw [if_neg na, upd_ne na]
            cases e : H1 a with
            | none => rfl
            | some w =>
              by_cases n : aS = some a
              · obtain ⟨_, w2, h2⟩ := c.sto.none n
                rw [hz] at h2
                cases h2
              · have := kH a w e n
                rw [hz] at this
                cases this
      · have n' : aS = none := n
        rw [n'] at e
        cases e
      · cases e : Hf6 D with
        | none => rfl
        | some o =>
          rcases c6.new D o e with ⟨u, hu⟩ | hz
          · have hu : Hf' D = some u := hu
            rw [hn] at hu
            cases hu
          · have hz : H' D = none := hz
            rw [hv] at hz
            cases hz
    refine hg _ Hf2 aS _ _ H2 x _ _ _ A5 r5 hgo fun Γ6 σ6 Hf6 H6 A6 e6 k6 s6 hT6 => ?_
    refine ⟨wipe_agree (s6.1.trans (wipe_length _ _)) s6.2 hj, ?_⟩
    refine ht _ Hf6 aS Γ6 σ6 H6 _ _ A6 hT6 fun b Γ7 Hf7 H7 A7 e7 k7 hT7 => ?_
    cases b with
    | true =>
      refine iteT (he _ Hf7 aS Γ7 σ6 H7 _ _ A7 (hT7.1 rfl) fun z Γ8 w Hf8 H8 A8 e8 k8 r8 hT8 => ?_)
      obtain ⟨c8, n8, h8⟩ := out A8
      have hl := hr.len
      refine ⟨vacc, h8, by rw [hl]; exact hT8.1, Hf8, Γ8.S, acc ++ [z], vacc ++ [w], ⟨fun a o h n => ?_, fun a o h => ?_, c8.mon, c8.new, ?_, c8.st0, c8.s00⟩, n8, upd_same, ((hr.mono ((e5.trans e6).trans (e7.trans e8))).app (.cons r8 .nil)), hT8.2⟩
      · have na : a ≠ D := fun e => by
          rw [e] at h
          have h : (if D = D then none else _) = some o := h
          rw [if_pos rfl] at h
          cases h
        rw [upd_ne na]
        exact c8.kept a o h n
      · rw [upd_ne (ne_of_none h n8)]
        exact c8.frz a o h
      · have q := c8.sto
        revert q
        cases aS with
        | none => cases Γ8.S <;> exact id
        | some s =>
          cases Γ8.S with
          | none => exact id
          | some S =>
            rintro ⟨⟨cc, z1, z2⟩, z3⟩
            exact ⟨⟨cc, by rw [upd_ne (fun e => hs (by rw [e]))]; exact z1, z2⟩, z3⟩
    | false =>
      obtain ⟨c8, n8, h8⟩ := out A7
      exact iteF ⟨Hf7, Γ7.S, acc, vacc, c8, n8, h8, hr.mono (((e5.trans e6).trans e7)), hT7.2 rfl⟩
  refine ⟨fun i m H' => m = ds.length - i ∧ i ≤ ds.length ∧ P i H', ⟨ds.length, by simp, Nat.zero_le _, Hf1, Γ1.S, [], [], ⟨fun a o h n => ?_, A2.co.frz, Same.refl _, fun a o h => .inl ⟨o, h⟩, A2.co.sto, .inr rfl, fun a e n => ?_⟩, hfD, upd_same, .nil, hT1⟩, ?_⟩
  · have na : a ≠ D := fun e => by
      rw [e] at h
      have h : (if D = D then none else _) = some o := h
      rw [if_pos rfl] at h
      cases h
    have h : (if a = D then none else upd H1 D (.lst []) a) = some o := h
    rw [if_neg na] at h
    exact h
  · have n' : aS = none := n
    rw [n'] at e
    cases e
  rintro i m H' ⟨rfl, hi, p⟩
  by_cases hlt : i < ds.length
  · obtain ⟨Hf', S', acc, vacc, c, hn, hv, hr, hgo⟩ := id p
    obtain ⟨A4, kH⟩ := cur c hn hv
    exact .inr ⟨(it.go i _ Hf' aS _ _ H' A4 c.mon (ko kH) hlt).1, P (i + 1), fun H2 q => ⟨ds.length - (i + 1), by omega, rfl, hlt, q⟩, fun x H2 hy => turn i H' hlt p x H2 hy⟩
  · have e : i = ds.length := by omega
    subst e
    obtain ⟨Hf', S', acc, vacc, c, hn, hv, hr, hgo⟩ := p
    obtain ⟨A4, kH⟩ := cur c hn hv
    rw [List.drop_length, lcGo_nil] at hgo
    refine .inl ⟨it.stop _ Hf' aS _ _ H' A4 c.mon (ko kH), ?_⟩
    -- the end
    have c1 := A1.co
    have cb : Co ⟨H1, Hf1, aS⟩ Hf' aS S' H' := ⟨fun a o h n => kH a o h n, c.frz, c.mon, fun a o h => by
      rcases c.new a o h with ⟨u, hu⟩ | hz
      · exact .inl ⟨u, hu⟩
      · right
        have hz : (if a = D then none else upd H1 D (.lst []) a) = none := hz
        by_cases na : a = D
        · rw [na]; exact hD
        · rw [if_neg na, upd_ne na] at hz
          exact hz, c.sto, .inr rfl, fun a e n => by
      have n' : aS = none := n
      rw [n'] at e
      cases e⟩
    have A5 := A1.behind cb
    have A6 : At K y Hf' aS (Γ1.w (wipeE Γ1.sl vs) S') σ H' := A5.less (wipeE_len _ _) fun i b h => (wipeE_get h).1
    refine k (.own (.lst acc)) _ (.ref D) Hf' H' A6 (e1.trans c.mon) (k1.trans kH) ⟨D, rfl, ⟨vacc, hv, hr⟩, hn, c1.old hD, hs⟩ (fun i o hi2 hσ => ?_) hgo
    have hi3 := all_less (wipeE_len _ _) (fun i b h => (wipeE_get h).1) hi2
    obtain ⟨v, hv3, a, e3, h3, _⟩ := A1.sl.slot i _ hi3
    have hσ : (Γ1.vals σ)[i]? = _ := hσ
    rw [hσ] at hv3
    have hv3 := Option.some.inj (Option.some.inj hv3)
    subst hv3
    have e3 := V.ref.inj e3
    subst e3
    obtain ⟨u, hu⟩ := h3.there
    rw [hD] at hu
    cases hu
theorem so_lc {wi : TI} {W : DA} {g : TG} {G : DG} {js : List Nat} {tt : TT} {Tt : DT} {te : TE} {Te : DE} {vs : List Nat} (hw : SI K wi W) (hg : SG K g G js) (ht : ST K tt Tt) (he : SE K te Te) (hj : ∀ j ∈ js, j ∈ vs) :
    SO K (tLc wi g tt te vs) (dLc W G Tt Te vs) := fun y Hf aS Γ σ H Φ Q A hT k => lc_at A (fun Φ R h k => hw y Hf aS Γ σ H Φ R A h k) hg ht he hj Φ Q hT k
end

end
section
/-! DL4: [::-1], products of texts and tuples, the store, calls of defs, defs. -/

/-! ### t[::-1] -/
section
variable {prog : Program} {w : World} {A : Around} {E : Value → Shared → Prop} {s : Shared}
theorem fm_some {α β : Type} {f : α → Option β} {g : α → β} : ∀ l : List α, (∀ m ∈ l, f m = some (g m)) → l.filterMap f = l.map g
  | [], _ => rfl
  | a :: l, h => by
    rw [List.filterMap_cons, h a (List.mem_cons_self ..), List.map_cons, fm_some l fun m hm => h m (List.mem_cons_of_mem _ hm)]
theorem pick_rev (xs : Array Value) : ((List.range xs.size).filterMap fun (m : Nat) => xs[(((xs.size : Int) - 1) + (m : Int) * (-1)).toNat]?).toArray = xs.toList.reverse.toArray := by
  congr 1
  have e : ∀ m ∈ List.range xs.size, xs[(((xs.size : Int) - 1) + (m : Int) * (-1)).toNat]? = some (xs.toList.reverse.getD m .none) := fun m hm => by
    have hm := List.mem_range.mp hm
    have : (((xs.size : Int) - 1) + (m : Int) * (-1)).toNat = xs.size - 1 - m := by omega
    rw [this, ← Array.getElem?_toList, List.getD_eq_getElem?_getD, List.getElem?_reverse (by simpa using hm), Array.length_toList]
    have : xs.size - 1 - m < xs.toList.length := by simp; omega
    rw [List.getElem?_eq_getElem this]
    rfl
  have h2 : (List.range xs.size).filterMap (fun (m : Nat) => xs[(((xs.size : Int) - 1) + (m : Int) * (-1)).toNat]?) = (List.range xs.size).map fun m => xs.toList.reverse.getD m .none := by
    exact fm_some _ e
  rw [h2]
  apply List.ext_getElem
  · simp
  · intro i h1 h3
    rw [List.getElem_map, List.getElem_range, List.getD_eq_getElem?_getD, List.getElem?_eq_getElem h3]
    rfl
theorem getItem_tuple_rev {t sl : Addr} {items : Array Value} {vs : Value} {Q : Value → Shared → Prop} (ht : IsTup s.heap t items) (hs : s.heap.IsSliceOf sl .none .none vs) (ps : IsPart vs (some (-1)))
    (h : Q (.ref s.heap.objs.size) { s with heap := s.heap.push { cls := .type "tuple", data := .seq items.toList.reverse.toArray } })
    (hsz : items.size ≤ sizeLine) : wpAny (model prog w) A (getItem (.ref t) (.ref sl)) Q E s := by
  have htake : sizeOk (.seq items.toList.reverse.toArray) := by
    show items.toList.reverse.toArray.size ≤ sizeLine
    rw [List.size_toArray, List.length_reverse, Array.length_toList]
    exact hsz
  obtain ⟨os, hos, hcs, hds⟩ := id hs
  have hTs : s.TypeIs (.ref sl) "slice" := ⟨os, hos, hcs⟩
  unfold getItem
  try with_reducible refine wpAny_holding ?_
  first | refine wpAny_bind (wpAny_pure ?_) | skip
  refine wpAny_bind (wpAny_sequenceKey ht.typeIs (by decide) ?_)
  refine wpAny_bind (wpAny_callSpecial?_slot (name := Str.ofString "__getitem__") ht.typeIs PyProof.Rows.slot_tuple_getitem
    (wpAny_call_entry PyProof.Rows.slot_tuple_getitem ht.typeIs entry_tuple_getitem ?_ (args_tuple_getitem _ _)))
  show wpAny _ _ (Builtin.Tuple.tupleItemsOf (.ref t) >>= _) _ _ s
  refine wpAny_bind (tupleItemsOf_ ht ?_)
  refine wpAny_bind (wpAny_typeOf hTs ?_)
  rw [if_pos (by decide)]
  have hsl : wpAny (model prog w) A.in1 (Builtin.Slice.sliceApplied (.ref sl) (pure (items.size : Int))) (fun r s' => r = ((items.size : Int) - 1, -1, items.size) ∧ s' = s) E s := by
    unfold Builtin.Slice.sliceApplied Builtin.Slice.sliceFields
    refine wpAny_bind (wpAny_bind (wpAny_field hos hds (x := .none) rfl (wpAny_bind (wpAny_field hos hds (x := .none) rfl (wpAny_bind (wpAny_field hos hds (x := vs) rfl (wpAny_pure ?_)))))))
    refine wpAny_bind (HT.slicePart_ ps ?_)
    show wpAny _ _ (if ((-1 : Int) == 0) = true then _ else _) _ _ s
    rw [if_neg (by decide)]
    refine wpAny_bind (slicePart_none (wpAny_bind (slicePart_none (wpAny_bind (wpAny_pure ?_)))))
    show wpAny _ _ (pure ((items.size : Int) - 1, (-1 : Int), Builtin.Slice.slicePlaces ((items.size : Int) - 1) (-1) (-1))) _ _ s
    have e : Builtin.Slice.slicePlaces ((items.size : Int) - 1) (-1) (-1) = items.size := by
      unfold Builtin.Slice.slicePlaces
      rw [if_neg (by decide)]
      have e1 : (- -1 : Int) = 1 := by decide
      rw [e1, Int.ediv_one]
      split <;> omega
    rw [e]
    exact wpAny_pure ⟨rfl, rfl⟩
  refine wpAny_bind (wpAny_mono hsl (fun r s' hr => ?_) fun _ _ z => z)
  obtain ⟨rfl, rfl⟩ := hr
  have hno : ¬ ((((items.size : Int) - 1) == 0 && (-1 : Int) == 1 && items.size == items.size) = true) := by
    intro q
    rw [Bool.and_eq_true, Bool.and_eq_true] at q
    exact absurd q.1.2 (by decide)
  show wpAny _ _ (if (((items.size : Int) - 1) == 0 && (-1 : Int) == 1 && items.size == items.size) = true then _ else _) _ _ s'
  rw [if_neg hno, pick_rev]
  first
    | exact wpAny_bind (m := Builtin.Tuple.tupleExact _) (wpAny_newObj_type (wpAny_pure ⟨_, rfl, wpAny_pure h⟩) htake)
    | exact wpAny_bind (m := Builtin.Tuple.tupleExact _) (wpAny_newObj_type (wpAny_bind (wpAny_pure (wpAny_pure ⟨_, rfl, wpAny_pure h⟩))) htake)
    | exact wpAny_bind (wpAny_bind (m := Builtin.Tuple.tupleExact _) (wpAny_newObj_type (wpAny_pure (wpAny_pure ⟨_, rfl, wpAny_pure h⟩)) htake))
    | exact wpAny_bind (wpAny_bind (m := Builtin.Tuple.tupleExact _) (wpAny_newObj_type (wpAny_pure ⟨_, rfl, wpAny_pure h⟩) htake))
end
section
variable {X : Cx}
def tRevT (K : PySem.W.Frag) (te : TE) : TE := fun σ H Q => te σ H fun x H1 => ∃ a xs, x = .ref a ∧ SqT K H1 a xs ∧ ∀ p, H1 p = none → Q (.ref p) (upd H1 p (.tup xs.reverse))
theorem pe_revT {e : Expr} {te : TE} {k : Nat} {p1 p2 p3 pos : Pos} (he : PE X e te) : PE X (.Subscript e (.Slice none none (some (.UnaryOp .USub (.Constant (.int 1) k p1) p2)) p3) pos) (tRevT X.K te) := by
  refine ⟨fun pins s σ H Q I h => ?_⟩
  refine Subscript_ (thn (he.run pins s σ H _ I h) fun v s1 ⟨x, H1, I1, r1, q1⟩ => ?_)
  obtain ⟨a, xs, ex, hx, q⟩ := q1
  subst ex
  cases r1
  have hst : PO X (some (.UnaryOp .USub (.Constant (.int 1) k p1) p2)) (tPart (tUn (rU fun i => .int (-i)) (tC (.int 1)))) := po_some (pe_un un_neg pe_int)
  refine wpAny_Slice (thn (po_none.run pins s1 σ H1 (fun o H2 => o = none ∧ H2 = H1) I1 ⟨rfl, rfl⟩) fun vl s2 ⟨l, H2, I2, pl, el, e2⟩ => ?_)
  subst el e2
  refine thn (po_none.run pins s2 σ H2 (fun o H3 => o = none ∧ H3 = H2) I2 ⟨rfl, rfl⟩) fun vu s3 ⟨u, H3, I3, pu, eu, e3⟩ => ?_
  subst eu e3
  refine thn (hst.run pins s3 σ H3 (fun o H4 => o = some (-1) ∧ H4 = H3) I3 ⟨1, rfl, -1, rfl, rfl, rfl⟩) fun vs s4 ⟨o, H4, I4, ps, eo, e4⟩ => ?_
  subst eo e4
  cases pl
  cases pu
  have I5 : Inv X pins σ H4 { s4 with heap := s4.heap.push { cls := .type "slice", data := .fields #[.none, .none, vs] } } := I4.kept (t' := s4.toks) fun b ob q => Heap.get?_push_of_some _ q
  obtain ⟨its, r, ht, hz⟩ := I5.tuple hx
  have hlen := r.length
  show wpAny (model X.prog X.w) X.A (subscriptTail e (.Slice none none (some (.UnaryOp .USub (.Constant (.int 1) k p1) p2)) p3) (.ref a) (.ref s4.heap.objs.size)) (EP X pins σ Q) X.xe { s4 with heap := s4.heap.push { cls := .type "slice", data := .fields #[.none, .none, vs] } }
  refine tail_any (ops := [.ref a, .ref s4.heap.objs.size]) ht.typeIs (PyProof.Rows.slot_tuple_getitem.lookup) ?_ (by with_unfolding_all rfl)
  refine getItem_tuple_rev ht (Heap.IsSliceOf.new _ .none .none vs) ps ?_ (by rw [List.size_toArray]; omega)
  refine ⟨.ref _, _, I5.laid (t' := s4.toks) (o := .tup xs.reverse) (fun b ob q => Heap.get?_push_of_some _ q) (Nat.le_refl _) ?_, rfl, q _ (I5.hok.fresh (Nat.le_refl _))⟩
  refine ⟨by rw [List.length_reverse]; exact hz, _, r.reverse, _, Heap.get?_push_size _ rfl, rfl, _, rfl⟩
end

section
variable {K : PySem.W.Frag} {y : Yn} {Hf Hf' : Hp} {aS : Option Addr} {Γ : Ev} {σ : L2.St} {H H' : Hp} {S : Option Sto} {v : V} {d : D} {r : B}
def dRevT (T : DE) : DE := fun Γ Φ => T Γ fun d Γ1 => match d with
  | .tup ds => Φ (.tup ds.reverse) Γ1
  | _ => False
theorem se_revT {t : TE} {T : DE} (h : SQ K t T) : SE K (tRevT K t) (dRevT T) := fun y Hf aS Γ σ H Φ Q A hT k =>
  h y Hf aS Γ σ H _ _ A hT fun d Γ1 v Hf1 H1 A1 e1 k1 r1 hT1 => by
    split at hT1
    · obtain ⟨a, vs, rfl, f, g, r⟩ := r1.tup A1.co
      refine ⟨a, vs, rfl, SqT.of f, fun p hp => ?_⟩
      have q := A1.layK hp (o := .tup vs.reverse)
      exact k _ Γ1 _ _ _ (A1.lay hp) (e1.trans q.1) (k1.trans q.2) (.tup upd_same ((r.mono q.1).rev)) hT1
    · exact hT1.elim
def dRevL (T : DE) : DO := fun Γ Φ => T Γ fun d Γ1 => match d with
  | .lst ds => Φ (.own (.lst ds.reverse)) Γ1
  | _ => False
theorem so_revL {t : TE} {T : DE} (h : SQ K t T) : SO K (tRevL K t) (dRevL T) := fun y Hf aS Γ σ H Φ Q A hT k =>
  h y Hf aS Γ σ H _ _ A hT fun d Γ1 v Hf1 H1 A1 e1 k1 r1 hT1 => by
    split at hT1
    · obtain ⟨a, vs, rfl, f, r, _⟩ := r1.lst A1.co
      refine ⟨a, vs, rfl, SqL.of f, fun p hp => ?_⟩
      exact k (.own (.lst _)) Γ1 _ Hf1 _ (A1.layO hp) e1 (k1.trans (A1.layK hp).2) ⟨p, rfl, ⟨_, upd_same, r.rev⟩, A1.co.frzn hp, A1.co.old hp, A1.co.sne hp⟩ (A1.apart (o := .lst []) hp) hT1
    · exact hT1.elim

/-- t * n for the empty tuple and for n = 1: t itself -/
theorem tuple_mulSame (l : Addr) (items : Array Value) (n : Nat) (dd : Option Addr) (sl : Array (Option Value)) (x : Int) (u : Tok) (c0 : (decide (x < -(2 ^ 63)) || decide (x ≥ 2 ^ 63)) = false) (c1 : (items.isEmpty || x == 1) = true) :
    Meets (Builtin.«tuple.__mul__» ⟨[.ref l, .int x u], []⟩) (fun _ R s => s.heap.get? l = some { cls := .type "tuple", dict := dd, data := .seq items n, slots := sl } ∧
      R (.ok (.ret (Value.ref l))) s) :=
  .of_wp fun prog w A R s h => by
    obtain ⟨hp, g, d, tk, os⟩ := s
    obtain ⟨hl, h⟩ := h
    have f1 := AutoSeq1.idx_int
    wp_walk using wpAny_loadPart' hl
    repeat (first
      | (refine wpAny_ite_false (decide_eq_false (by rw [c0]; exact Bool.false_ne_true)) ?_; wp_walk using wpAny_loadPart' hl)
      | (refine wpAny_ite_true (decide_eq_true c1) ?_; wp_walk using wpAny_loadPart' hl))
    exact ⟨_, rfl, h⟩
/-- t * n for n at most 0 -/
theorem tuple_mulZero (l : Addr) (items : Array Value) (n : Nat) (dd : Option Addr) (sl : Array (Option Value)) (x : Int) (u : Tok) (c0 : (decide (x < -(2 ^ 63)) || decide (x ≥ 2 ^ 63)) = false) (c1 : (items.isEmpty || x == 1) = false) (c2 : (decide (x ≤ 0) || items.isEmpty) = true) :
    Meets (Builtin.«tuple.__mul__» ⟨[.ref l, .int x u], []⟩) (fun _ R s => s.heap.get? l = some { cls := .type "tuple", dict := dd, data := .seq items n, slots := sl } ∧
      R (.ok (.ret (Value.ref s.heap.objs.size))) { s with heap := s.heap.push { cls := Value.type "tuple", data := Data.seq #[] }, toks := s.toks }) :=
  .of_wp fun prog w A R s h => by
    obtain ⟨hp, g, d, tk, os⟩ := s
    obtain ⟨hl, h⟩ := h
    have f1 := AutoSeq1.idx_int
    wp_walk using wpAny_loadPart' hl
    repeat (first
      | (refine wpAny_ite_false (decide_eq_false (by rw [c0]; exact Bool.false_ne_true)) ?_; wp_walk using wpAny_loadPart' hl)
      | (refine wpAny_ite_false (decide_eq_false (by rw [c1]; exact Bool.false_ne_true)) ?_; wp_walk using wpAny_loadPart' hl)
      | (refine wpAny_ite_true (decide_eq_true c2) ?_; wp_walk using wpAny_loadPart' hl))
    exact ⟨_, rfl, h⟩
def rRepT1 (K : PySem.W.Frag) : R2 := fun x y H Q => ∃ l k xs, x = .ref l ∧ y = .int k ∧ SqT K H l xs ∧ (xs = [] ∨ k = 1) ∧ -1000 ≤ k ∧ k ≤ 1000 ∧ Q (.ref l) H
def rRepT0 (K : PySem.W.Frag) : R2 := fun x y H Q => ∃ l k xs, x = .ref l ∧ y = .int k ∧ SqT K H l xs ∧ xs ≠ [] ∧ -1000 ≤ k ∧ k ≤ 0 ∧ ∀ p, H p = none → Q (.ref p) (upd H p (.tup []))
theorem op_repT1 {X : Cx} : OpR X (binaryOp .Mult) (rRepT1 X.K) := by
  intro pins s σ H x y v u Q I rx ry h
  obtain ⟨l, k, xs, rfl, rfl, hT, hne, h1, h2, q⟩ := h
  cases rx
  obtain ⟨t, rfl⟩ := ry
  obtain ⟨its, r, ⟨⟨cls, dd, data, sl⟩, ho, hc, n, hd⟩, hs⟩ := I.tuple hT
  simp only at hc hd
  subst hc hd
  have c0 : (decide (k < -(2 ^ 63)) || decide (k ≥ 2 ^ 63)) = false := by
    rw [decide_eq_false (by omega), decide_eq_false (by omega)] <;> rfl
  have c1 : (its.toArray.isEmpty || k == 1) = true := by
    rcases hne with rfl | rfl
    · have : its = [] := by
        have h := r.length
        exact List.eq_nil_of_length_eq_zero h.symm
      subst this
      rfl
    · exact Bool.or_eq_true_iff.mpr (.inr rfl)
  refine wpAny_binaryOp_repeat_ref (T := "tuple") (U := "int") (by decide) ⟨_, ho, rfl⟩ (fun s' => typeIs_int s' k t) noFill_tuple_mul F.fills_int_mul F.slot_int_rmul repeat_tuple F.slot_int_index.lookup
    (call_meets F.slot_int_rmul (typeIs_int s k t) F.entry_int_rmul (F.args_int_rmul_2 _ _) (int_rmul_tuple k t l its.toArray n dd sl)
      ⟨ho, rfl, ⟨_, ho, rfl⟩, call_meets F.slot_tuple_mul ⟨_, ho, rfl⟩ F.entry_tuple_mul (F.args_tuple_mul_2 _ _) (tuple_mulSame l its.toArray n dd sl k t c0 c1) ⟨ho, ?_⟩⟩)
  exact ⟨.ref l, H, I, rfl, q⟩
theorem op_repT0 {X : Cx} : OpR X (binaryOp .Mult) (rRepT0 X.K) := by
  intro pins s σ H x y v u Q I rx ry h
  obtain ⟨l, k, xs, rfl, rfl, hT, hne, h1, h2, q⟩ := h
  cases rx
  obtain ⟨t, rfl⟩ := ry
  obtain ⟨its, r, ⟨⟨cls, dd, data, sl⟩, ho, hc, n, hd⟩, hs⟩ := I.tuple hT
  simp only at hc hd
  subst hc hd
  have c0 : (decide (k < -(2 ^ 63)) || decide (k ≥ 2 ^ 63)) = false := by
    rw [decide_eq_false (by omega), decide_eq_false (by omega)] <;> rfl
  have hi : its.toArray.isEmpty = false := by
    cases its with
    | nil => exact absurd (List.eq_nil_of_length_eq_zero r.length) hne
    | cons a b => rfl
  have c1 : (its.toArray.isEmpty || k == 1) = false := by
    rw [hi, Bool.false_or]
    exact beq_eq_false_iff_ne.mpr (by omega)
  have c2 : (decide (k ≤ 0) || its.toArray.isEmpty) = true := by
    rw [decide_eq_true h2]
    rfl
  refine wpAny_binaryOp_repeat_ref (T := "tuple") (U := "int") (by decide) ⟨_, ho, rfl⟩ (fun s' => typeIs_int s' k t) noFill_tuple_mul F.fills_int_mul F.slot_int_rmul repeat_tuple F.slot_int_index.lookup
    (call_meets F.slot_int_rmul (typeIs_int s k t) F.entry_int_rmul (F.args_int_rmul_2 _ _) (int_rmul_tuple k t l its.toArray n dd sl)
      ⟨ho, rfl, ⟨_, ho, rfl⟩, call_meets F.slot_tuple_mul ⟨_, ho, rfl⟩ F.entry_tuple_mul (F.args_tuple_mul_2 _ _) (tuple_mulZero l its.toArray n dd sl k t c0 c1 c2) ⟨ho, ?_⟩⟩)
  refine ⟨.ref s.heap.objs.size, _, I.laid (t' := s.toks) (o := .tup []) (fun b ob q => Heap.get?_push_of_some _ q) (Nat.le_refl _) ?_, rfl, q _ (I.hok.fresh (Nat.le_refl _))⟩
  exact ⟨by decide, _, .nil, IsTup.new _ _⟩

/-! ### products -/
def mulD (a b : D) (k : B → Prop) : Prop := match a, b with
  | .int i, .int j => CMulD i j ∧ k (.fro (.int (i * j)))
  | .str s, .int n => MulOk s n ∧ k (.fro (.str (Txt.mul s n)))
  | .tup ds, .int n => -1000 ≤ n ∧ n ≤ 1000 ∧ ds.length ≤ 1000 ∧ k (.fro (.tup (List.replicate n.toNat ds).flatten))
  | .lst ds, .int n => -(2 ^ 63) ≤ n ∧ n < 2 ^ 63 ∧ ds.length * n.toNat ≤ sizeLine ∧ k (.own (.lst (List.replicate n.toNat ds).flatten))
  | _, _ => False
def rMulD (K : PySem.W.Frag) : R2 := fun x y H Q => rI CMulD (fun i j => .int (i * j)) x y H Q ∨ (∃ s n, x = .str s ∧ y = .int n ∧ MulOk s n ∧ Q (.str (Txt.mul s n)) H) ∨ rRepT K x y H Q ∨ rRepT1 K x y H Q ∨ rRepT0 K x y H Q ∨ rRep x y H Q
theorem op_mulStr {X : Cx} : OpR X (binaryOp .Mult) (fun x y H Q => ∃ s n, x = .str s ∧ y = .int n ∧ MulOk s n ∧ Q (.str (Txt.mul s n)) H) := by
  intro pins s σ H x y v u Q I rx ry h
  obtain ⟨z, n, rfl, rfl, ok, q⟩ := h
  obtain ⟨t, rfl⟩ := rx
  obtain ⟨t', rfl⟩ := ry
  exact SB.mul ok fun t2 k => ⟨.str _, H, I.tok _, ⟨_, rfl⟩, q⟩
theorem op_mulA {X : Cx} : OpR X (binaryOp .Mult) (rMulD X.K) := op_mulD.or (op_mulStr.or (op_repT.or (op_repT1.or (op_repT0.or op_rep))))
theorem op2_mul : Op2 K (rMulD K) mulD := by
  intro y Hf aS Γ σ H x x' dx dy Φ Q A h1 h2 ho k
  unfold mulD at ho
  split at ho
  · exact .inl ⟨_, _, h1.int, h2.int, ho.1, k (.fro _) _ Hf H A (Same.refl _) (Keep.refl _ _) (Rep.int _) trivial ho.2⟩
  · exact .inr (.inl ⟨_, _, h1.str, h2.int, ho.1, k (.fro _) _ Hf H A (Same.refl _) (Keep.refl _ _) (Rep.str _) trivial ho.2⟩)
  · rename_i ds n
    obtain ⟨a, vs, rfl, f, g, r⟩ := h1.tup A.co
    obtain ⟨c2, c3, c4, ho⟩ := ho
    by_cases hn1 : vs = [] ∨ n = 1
    · have e : (List.replicate n.toNat ds).flatten = ds := by
        rcases hn1 with rfl | rfl
        · cases r
          exact List.flatten_replicate_nil
        · exact List.append_nil _
      rw [e] at ho
      exact .inr (.inr (.inr (.inl ⟨a, n, vs, rfl, h2.int, SqT.of f, hn1, c2, c3, k (.fro (.tup _)) _ _ _ A (Same.refl _) (Keep.refl _ _) (Rep.tup g r) trivial ho⟩)))
    have c1 : vs ≠ [] := fun e => hn1 (.inl e)
    by_cases hn0 : n ≤ 0
    · refine .inr (.inr (.inr (.inr (.inl ⟨a, n, vs, rfl, h2.int, SqT.of f, c1, c2, hn0, fun p hp => ?_⟩))))
      have q := A.layK hp (o := .tup [])
      have e : (List.replicate n.toNat ds).flatten = [] := by rw [Int.toNat_of_nonpos hn0]; rfl
      rw [e] at ho
      exact k (.fro (.tup _)) _ _ _ (A.lay hp) q.1 q.2 (Rep.tup upd_same .nil) trivial ho
    refine .inr (.inr (.inl ⟨a, n, vs, rfl, h2.int, SqT.of f, c1, by omega, c3, by rw [r.len]; exact c4, fun p hp => ?_⟩))
    · have q := A.layK hp (o := .tup (List.replicate n.toNat vs).flatten)
      exact k (.fro (.tup _)) _ _ _ (A.lay hp) q.1 q.2 (Rep.tup upd_same ((r.mono q.1).rep _)) trivial ho
  · rename_i ds n
    obtain ⟨a, vs, rfl, f, r, _⟩ := h1.lst A.co
    obtain ⟨c1, c2, c3, ho⟩ := ho
    refine .inr (.inr (.inr (.inr (.inr ⟨a, n, vs, rfl, h2.int, f, c1, c2, by rw [r.len]; exact c3, fun p hp => ?_⟩))))
    exact k (.own (.lst _)) _ _ _ (A.layO hp) (Same.refl _) (A.layK hp).2 ⟨p, rfl, ⟨_, upd_same, r.rep _⟩, A.co.frzn hp, A.co.old hp, A.co.sne hp⟩ (A.apart (o := .lst []) hp) ho
  · exact ho.elim

/-! ### the store -/
def stoGet (S : Sto) (c : Int) (k : D → Prop) : Prop := match c with
  | 0 => k (.lst (S.cells.map D.int))
  | 1 => k (.int S.at_)
  | 2 => k (.int S.left)
  | 3 => k (.int S.blend)
  | 4 => k (.int S.turn)
  | _ => False
/-- store[c] -/
def dStoG (i : Nat) (c : Int) : DE := fun Γ Φ => match Γ.sl[i]?, Γ.S with
  | some (some .sto), some S => stoGet S c fun d => Φ d Γ
  | _, _ => False
theorem se_stoG (i : Nat) (c : Int) : SE K (tOp (rIx K) (tVar i) (tC (.int c))) (dStoG i c) := by
  intro y Hf aS Γ σ H Φ Q A hT k
  unfold dStoG at hT
  split at hT
  · rename_i S e1 e2
    obtain ⟨v, hv, a, rfl, ha⟩ := A.slot i _ e1
    have z := A.co.sto
    rw [ha, e2] at z
    obtain ⟨⟨cc, z1, z2⟩, z3⟩ := z
    have go : ∀ {w : V} {d : D}, atI [V.ref cc, .int S.at_, .int S.left, .int S.blend, .int S.turn] c = some w → Rep K Hf w d → Φ d Γ → (tOp (rIx K) (tVar i) (tC (.int c))) σ H Q := fun {w d} h1 h2 h3 =>
      ⟨.ref a, hv, .inl ⟨a, _, c, w, rfl, rfl, SqL.of z1, h1, k d Γ w Hf H A (Same.refl _) (Keep.refl _ _) h2 h3⟩⟩
    unfold stoGet at hT
    split at hT
    · exact go rfl (.lst z2 (RepL.ints _)) hT
    · exact go rfl (.int _) hT
    · exact go rfl (.int _) hT
    · exact go rfl (.int _) hT
    · exact go rfl (.int _) hT
    · exact hT.elim
  · exact hT.elim
def stoPut (S : Sto) (c : Int) (d : D) (k : Sto → Prop) : Prop := match c, d with
  | 1, .int i => ∃ n : Nat, i = n ∧ k { S with at_ := n }
  | 2, .int i => k { S with left := i }
  | 4, .int i => k { S with turn := i }
  | _, _ => False
/-- store[c] = e -/
def dStoP (i : Nat) (c : Int) (T : DE) : DS := fun De Γ => T Γ fun d Γ1 => match Γ1.sl[i]?, Γ1.S with
  | some (some .sto), some S => stoPut S c d fun S' => De.nx (Γ1.w Γ1.sl (some S'))
  | _, _ => False
theorem At.sto (A : At K y Hf aS Γ σ H) {a : Addr} {S S' : Sto} {cc : Addr} (ha : aS = some a) (hS : Γ.S = some S) (hc : H a = some (.lst [.ref cc, .int S.at_, .int S.left, .int S.blend, .int S.turn])) (hf : Hf cc = some (.lst (S'.cells.map V.int))) :
    At K y Hf aS (Γ.w Γ.sl (some S')) σ (upd H a (.lst [.ref cc, .int S'.at_, .int S'.left, .int S'.blend, .int S'.turn])) := by
  subst ha
  have c := A.co
  have hfa := (c.sto.none rfl).1
  refine ⟨⟨fun b w h n => ?_, fun b w h => ?_, c.mon, c.new, ⟨⟨cc, upd_same, hf⟩, hfa⟩, c.st0, c.s00⟩, ⟨A.sl.len, fun i b h => ?_, A.sl.sep⟩⟩
  · have nb : b ≠ a := fun e => by
      subst e
      rcases c.st0 with z | z
      · rw [c.s00 b rfl z] at h
        cases h
      · exact n z
    rw [upd_ne nb]
    exact c.kept b w h n
  · rw [upd_ne (ne_of_none h hfa)]
    exact c.frz b w h
  · obtain ⟨v, hv, hb⟩ := A.sl.slot i b h
    refine ⟨v, hv, ?_⟩
    cases b with
    | fro d => exact hb
    | sto => exact hb
    | lk d => exact hb
    | own o =>
      obtain ⟨b2, e1, h1, h2, h3, h4⟩ := hb
      exact ⟨b2, e1, h1.mono (Same.refl _) fun u hu => by rw [upd_ne (fun e => h4 (by rw [e]))]; exact hu, h2, h3, h4⟩
theorem ss_stoP (i : Nat) (c : Int) {t : TE} {T : DE} (h : SE K t T) : SS K ω (tAsg t (gSub (tVar i) (tC (.int c)) rSetL)) (dStoP i c T) := by
  intro y Hf aS Γ σ H De Dn A hT L
  refine h y Hf aS Γ σ H _ _ A hT fun d Γ1 w Hf1 H1 A1 e1 k1 r1 hT1 => ?_
  split at hT1
  · rename_i S g1 g2
    obtain ⟨v, hv, a, rfl, ha⟩ := A1.slot i _ g1
    have z := A1.co.sto
    rw [ha, g2] at z
    obtain ⟨⟨cc, z1, z2⟩, z3⟩ := z
    refine ⟨.ref a, hv, a, [V.ref cc, .int S.at_, .int S.left, .int S.blend, .int S.turn], c, ?_⟩
    unfold stoPut at hT1
    split at hT1
    · obtain ⟨n, rfl, hT1⟩ := hT1
      cases r1
      exact ⟨1, rfl, rfl, z1, rfl, L.nx Hf1 aS _ σ _ (A1.sto (S' := { S with at_ := n }) ha g2 z1 z2) hT1⟩
    · rename_i i
      cases r1
      exact ⟨2, rfl, rfl, z1, rfl, L.nx Hf1 aS _ σ _ (A1.sto (S' := { S with left := i }) ha g2 z1 z2) hT1⟩
    · rename_i i
      cases r1
      exact ⟨4, rfl, rfl, z1, rfl, L.nx Hf1 aS _ σ _ (A1.sto (S' := { S with turn := i }) ha g2 z1 z2) hT1⟩
    · exact hT1.elim
  · exact hT1.elim
def Sto.dat (S : Sto) : O := .lst [.lst (S.cells.map D.int), .int S.at_, .int S.left, .int S.blend, .int S.turn]
/-- x = e, and the list is taken as the store -/
def dSetSto (i : Nat) (T : DO) : DS := fun De Γ => T Γ fun b Γ1 => Γ1.S = none ∧ ∃ S : Sto, b = .own S.dat ∧ De.nx ⟨Γ1.sl.set i (some .sto), some S⟩
theorem ss_setSto (i : Nat) {t : TE} {T : DO} (h : SO K t T) : SS K ω (tAsg t (gName i)) (dSetSto i T) := by
  intro y Hf aS Γ σ H De Dn A hT L
  refine h y Hf aS Γ σ H _ _ A hT fun b Γ1 v Hf1 H1 A1 e1 k1 hb ha hT1 => ?_
  obtain ⟨hS, S, rfl, hn⟩ := hT1
  have ha : ∀ (i : Nat) (o : O), Γ1.sl[i]? = some (some (B.own o)) → σ[i]? ≠ some (some v) := fun i o e q => ha i o (Ev.at_ e) (by rw [A1.val (List.getElem?_eq_some_iff.mp e).1]; exact q)
  obtain ⟨a, rfl, ⟨vs, h1, h2⟩, h3, h4, h5⟩ := hb
  have c := A1.co
  have z := c.sto
  rw [hS] at z
  have haS : aS = none := by
    cases aS with
    | none => rfl
    | some _ => exact z.elim
  subst haS
  have h0 : y.a0 = none := by
    rcases c.st0 with q | q
    · exact q
    · exact q
  cases h2 with
  | cons r1 r2 =>
    cases r1 with
    | @lst cc us _ f1 f2 =>
      have e2 := RepL.ints_of f2
      subst e2
      have e3 := RepL.ints_of (ns := [(S.at_ : Int), S.left, S.blend, S.turn]) r2
      subst e3
      have hm : V.ref a = V.ref a := rfl
      refine L.nx Hf1 (some a) ⟨Γ1.sl.set i (some .sto), some S⟩ _ H1 ?_ hn
      refine At.mk2 (Γ := ⟨Γ1.sl.set i (some .sto), some S⟩) (by rw [List.length_set, List.length_set]; exact A1.len) ⟨c.kept, c.frz, c.mon, c.new, ⟨⟨cc, h1, f1⟩, h3⟩, .inl h0, fun b e _ => ?_⟩ (fun j b e => ?_) (fun j k b oj ok q1 q2 g1 g2 => ?_) rfl
      · have e := Option.some.inj e
        subst e
        exact h4
      · show ∃ v, _
        have _ := 0
        · rcases get_set_some e with ⟨hij, e9⟩ | ⟨n, e9⟩
          · subst hij
            have e9 := Option.some.inj e9
            subst e9
            have hi : i < σ.length := by
              rw [A1.len]
              by_cases hi : i < Γ1.sl.length
              · exact hi
              · have e' : (Γ1.sl.set i (some B.sto))[i]? = some (some B.sto) := e
                rw [List.getElem?_eq_none (by rw [List.length_set]; omega)] at e'
                cases e'
            exact ⟨.ref a, List.getElem?_set_self hi, a, rfl, rfl⟩
          · rw [List.getElem?_set_ne n]
            obtain ⟨v, hv, hb⟩ := A1.slot j b e9
            refine ⟨v, hv, ?_⟩
            cases b with
            | fro d => exact hb
            | sto =>
              obtain ⟨_, _, q⟩ := hb
              cases q
            | own o =>
              obtain ⟨b2, e1, g1, g2, g3, g4⟩ := hb
              refine ⟨b2, e1, g1, g2, g3, fun q => ?_⟩
              have q := Option.some.inj q
              subst q
              exact ha j o e9 (by rw [hv, e1])
            | lk d =>
              rcases hb with hb | ⟨b2, o, e1, e2, g1, g2⟩
              · exact .inl hb
              · exact .inr ⟨b2, o, e1, e2, g1, g2⟩
      · have _ := 0
        · have n1 : i ≠ j := fun e => by
            subst e
            rcases get_set_some q1 with ⟨_, z⟩ | ⟨n, _⟩
            · cases z
            · exact n rfl
          have n2 : i ≠ k := fun e => by
            subst e
            rcases get_set_some q2 with ⟨_, z⟩ | ⟨n, _⟩
            · cases z
            · exact n rfl
          rw [List.getElem?_set_ne n1] at q1 g1
          rw [List.getElem?_set_ne n2] at q2 g2
          exact A1.sep j k b oj ok q1 q2 g1 g2

/-! ### what defs promise -/
abbrev MP := List D → (B → Prop) → Prop
abbrev MS := List D → Sto → (B → Sto → Prop) → Prop
def spP (K : PySem.W.Frag) (m : MP) : Sp := fun vs H Q _ => ∃ Hf ds, Same Hf H ∧ RepL K Hf vs ds ∧
  m ds fun r => ∀ v H' Hf', Co ⟨H, Hf, none⟩ Hf' none none H' → RAt K ⟨H, Hf, none⟩ Hf' none H' v r → Q v H'
def spS (K : PySem.W.Frag) (m : MS) : Sp := fun vs H Q _ => ∃ a Hf ds S us, vs = .ref a :: us ∧ Same Hf H ∧ StoAt Hf H a S ∧ Hf a = none ∧ RepL K Hf us ds ∧
  m ds S fun r S' => ∀ v H' Hf', Co ⟨H, Hf, some a⟩ Hf' (some a) (some S') H' → RAt K ⟨H, Hf, some a⟩ Hf' (some a) H' v r → Q v H'
/-- behind a def that knows nothing of the store -/
theorem Co.put (c : Co y Hf aS S H) (c' : Co ⟨H, Hf, none⟩ Hf' none none H') : Co ⟨H, Hf, aS⟩ Hf' aS S H' := by
  have kp : ∀ a o, H a = some o → H' a = some o := fun a o h => c'.kept a o h (fun e => nomatch e)
  refine ⟨fun a o h _ => kp a o h, c'.frz, c'.mon, c'.new, ?_, .inr rfl, fun a e n => ?_⟩
  · have q := c.sto
    revert q
    cases aS with
    | none => cases S <;> exact id
    | some a =>
      cases S with
      | none => exact id
      | some S =>
        rintro ⟨⟨cc, z1, z2⟩, z3⟩
        refine ⟨⟨cc, kp _ _ z1, c'.mon _ _ z2⟩, ?_⟩
        cases e : Hf' a with
        | none => rfl
        | some o =>
          rcases c'.new a o e with ⟨u, hu⟩ | hn
          · have hu : Hf a = some u := hu
            rw [z3] at hu
            cases hu
          · have hn : H a = none := hn
            rw [z1] at hn
            cases hn
  · have n' : aS = none := n
    rw [n'] at e
    cases e
def dCall (m : MP) (dds : List D) (T : DA) : DO := fun Γ Φ => T Γ fun ds Γ1 => m (ds ++ dds) fun b => Φ b Γ1
theorem so_call {m : MP} {dvs : List V} {dds : List D} {E : XK} {t : TA} {T : DA} (hd : ∀ H : Hp, RepL K H dvs dds) (h : SA K t T) (mono : ∀ ds k k', (∀ b, k b → k' b) → m ds k → m ds k') : SO K (tCall (spP K m) dvs E t) (dCall m dds T) := by
  intro y Hf aS Γ σ H Φ Q A hT k
  refine h y Hf aS Γ σ H _ _ A hT fun ds Γ1 vs Hf1 H1 A1 e1 k1 r1 hT1 => ?_
  refine ⟨Hf1, ds ++ dds, A1.co.frz, r1.app (hd _), mono _ _ _ (fun b hb v H' Hf' c' b' => ?_) hT1⟩
  have c1 := A1.co
  have c2 := c1.put c'
  have A2 := A1.behind c2
  refine k b Γ1 v Hf' H' A2 (e1.trans c'.mon) (k1.trans c2.keep) ?_ ?_ hb
  · cases b with
    | fro d => exact b'
    | lk d => exact b'.elim
    | sto => obtain ⟨_, _, q⟩ := b'; cases q
    | own o =>
      obtain ⟨a, e, g1, g2, g3, g4⟩ := b'
      exact ⟨a, e, g1, g2, c1.old g3, c1.sne g3⟩
  · cases b with
    | fro d => exact trivial
    | sto => exact trivial
    | lk d => exact trivial
    | own o =>
      obtain ⟨a, rfl, g1, g2, g3, g4⟩ := b'
      exact A1.apart (o := o) g3
/-- the arguments looked at alone, a scalar handed back -/
def scaB (Φ : D → Prop) : B → Prop
  | .fro d => d.sca = true ∧ Φ d
  | _ => False
def dCallQ (m : MP) (dds : List D) (T : DA) : DE := fun Γ Φ => T Γ fun ds Γ1 => m (ds ++ dds) (scaB fun d => Φ d Γ1)
theorem se_callQ {m : MP} {dvs : List V} {dds : List D} {E : XK} {t : TA} {T : DA} (hd : ∀ H : Hp, RepL K H dvs dds) (h : SQA K t T) (mono : ∀ ds k k', (∀ b, k b → k' b) → m ds k → m ds k') : SE K (tCall (spP K m) dvs E t) (dCallQ m dds T) := by
  intro y Hf aS Γ σ H Φ Q A hT k
  refine h y Hf aS Γ σ H _ _ A hT fun ds Γ1 vs Hf1 H1 A1 e1 k1 r1 hT1 => ?_
  have c1 := A1.co
  have hsame : Same (hid aS H1) H1 := fun a o e => (hid_get e).2
  refine ⟨hid aS H1, ds ++ dds, hsame, (r1.hid c1).app (hd _), mono _ _ _ (fun b hb v H' Hf' c' b' => ?_) hT1⟩
  cases b with
  | own o => exact hb.elim
  | sto => exact hb.elim
  | lk d => exact hb.elim
  | fro d =>
    have kp : ∀ a o, H1 a = some o → H' a = some o := fun a o h => c'.kept a o h (fun e => nomatch e)
    have c2 : Co ⟨H1, Hf1, aS⟩ Hf1 aS Γ1.S H' := by
      refine ⟨fun a o h _ => kp a o h, fun a o h => kp a o (c1.frz a o h), Same.refl _, fun a o h => .inl ⟨o, h⟩, ?_, .inr rfl, fun a e n => ?_⟩
      · have q := c1.sto
        revert q
        cases aS with
        | none => cases Γ1.S <;> exact id
        | some a =>
          cases Γ1.S with
          | none => exact id
          | some S =>
            rintro ⟨⟨cc, z1, z2⟩, z3⟩
            exact ⟨⟨cc, kp _ _ z1, z2⟩, z3⟩
      · have n' : aS = none := n
        rw [n'] at e
        cases e
    have b'' : Rep K Hf' v d := b'
    exact k d Γ1 v Hf1 H' (A1.behind c2) e1 (k1.trans c2.keep) (b''.sca hb.1) hb.2
/-- the store handed over -/
def dCallS (m : MS) (i : Nat) (T : DA) : DO := fun Γ Φ => match Γ.sl[i]? with
  | some (some .sto) => T Γ fun ds Γ1 => match Γ1.S with
    | some S => m ds S fun b S' => Φ b (Γ1.w Γ1.sl (some S'))
    | none => False
  | _ => False
theorem so_callS {m : MS} (i : Nat) {E : XK} {t : TA} {T : DA} (h : SA K t T) (mono : ∀ ds S k k', (∀ b S, k b S → k' b S) → m ds S k → m ds S k') : SO K (tCall (spS K m) [] E (tCons (tVar i) t)) (dCallS m i T) := by
  intro y Hf aS Γ σ H Φ Q A hT k
  unfold dCallS at hT
  split at hT
  · rename_i e
    obtain ⟨v, hv, a, rfl, ha⟩ := A.slot i _ e
    refine ⟨.ref a, hv, ?_⟩
    refine h y Hf aS Γ σ H _ _ A hT fun ds Γ1 vs Hf1 H1 A1 e1 k1 r1 hT1 => ?_
    have c1 := A1.co
    split at hT1
    · rename_i S hS
      have z := c1.sto
      rw [ha, hS] at z
      refine ⟨a, Hf1, ds, S, vs, by rw [List.append_nil], c1.frz, z.1, z.2, r1, mono _ _ _ _ (fun b S' hb v H' Hf' c' b' => ?_) hT1⟩
      subst ha
      refine k b _ v Hf' H' (A1.behind c') (e1.trans c'.mon) (k1.trans c'.keep) ?_ ?_ hb
      · exact b'.b.1.back c1 b'.b.2
      · cases b with
        | fro d => exact trivial
        | sto => exact trivial
        | lk d => exact trivial
        | own o =>
          obtain ⟨a2, rfl, g1, g2, g3, g4⟩ := b'
          exact A1.apart (o := o) g3
    · exact hT1.elim
  · exact hT.elim
end

end
section
/-! DL5: the rules in short words, defs. -/

/-! ### defs -/
structure Df (K : PySem.W.Frag) (mg : Str → Option Value) (x : Str) (st : Stmt) (ps : List Str) : Prop where
  ex : ∃ f fd, Fun K x x st f fd ∧ mg x = some (.ref f) ∧ Binds K fd ps []
structure Fp (P : Program) (w : World) (K : PySem.W.Frag) (mg : Str → Option Value) (base : Heap) (k : Nat) (x : Str) (m : MP) : Prop where
  ex : ∃ f fd ps, FnOk P w K mg base CX0 k f fd ps (spP K m) ∧ mg x = some (.ref f) ∧ PySem.W.keepIn K (.ref f) = true ∧ Binds K fd ps []
  mono : ∀ ds k k', (∀ b, k b → k' b) → m ds k → m ds k'
structure Fs (P : Program) (w : World) (K : PySem.W.Frag) (mg : Str → Option Value) (base : Heap) (k : Nat) (x : Str) (m : MS) : Prop where
  ex : ∃ f fd ps, FnOk P w K mg base CX0 k f fd ps (spS K m) ∧ mg x = some (.ref f) ∧ PySem.W.keepIn K (.ref f) = true ∧ Binds K fd ps []
  mono : ∀ ds S k k', (∀ b S, k b S → k' b S) → m ds S k → m ds S k'
def startD (N : List Str) (ds : List D) : List (Option B) := ds.map (fun d => some (B.fro d)) ++ List.replicate (N.length - ds.length) none
def rtP (κ : B → Prop) : B → Option Sto → Prop
  | .fro d, _ => κ (.fro d)
  | .own o, _ => κ (.own o)
  | .sto, _ => False
  | .lk d, _ => d.sca = true ∧ κ (.fro d)
def rtS (κ : B → Sto → Prop) : B → Option Sto → Prop
  | .fro d, some S => κ (.fro d) S
  | .own o, some S => κ (.own o) S
  | .lk d, some S => d.sca = true ∧ κ (.fro d) S
  | _, _ => False
theorem rtS_get {κ : B → Sto → Prop} {d : D} {S : Option Sto} {S1 : Sto} (h : rtS κ (.fro d) S) (e : S = some S1) : κ (.fro d) S1 := by
  subst e
  exact h
section
variable {P : Program} {w : World} {K : PySem.W.Frag} {mg : Str → Option Value} {base : Heap}
theorem Co.noS {y : Yn} {Hf : Hp} {aS : Option Addr} {S : Option Sto} {H : Hp} (c : Co y Hf aS S H) (h : y.a0 = none) : Co y Hf none none H :=
  ⟨c.kept, c.frz, c.mon, c.new, trivial, .inl h, fun a e => nomatch e⟩
theorem startD_get {N : List Str} {ds : List D} {i : Nat} {b : B} (h : (startD N ds)[i]? = some (some b)) : ∃ d, ds[i]? = some d ∧ b = .fro d := by
  unfold startD at h
  by_cases hi : i < ds.length
  · rw [List.getElem?_append_left (by rw [List.length_map]; exact hi), List.getElem?_map, List.getElem?_eq_getElem hi] at h
    exact ⟨_, List.getElem?_eq_getElem hi, (Option.some.inj (Option.some.inj h)).symm⟩
  · rw [List.getElem?_append_right (by rw [List.length_map]; omega), List.getElem?_replicate] at h
    split at h <;> cases h
theorem start_get {N : List Str} {vs : List V} {i : Nat} {v : V} (h : vs[i]? = some v) : (start N vs)[i]? = some (some v) := by
  unfold L2.start
  have hi := (List.getElem?_eq_some_iff.mp h).1
  rw [List.getElem?_append_left (by rw [List.length_map]; exact hi), List.getElem?_map, h]
  rfl
theorem at_start {N : List Str} {vs : List V} {ds : List D} {Hf H : Hp} (e : Same Hf H) (r : RepL K Hf vs ds) : At K ⟨H, Hf, none⟩ Hf none ⟨startD N ds, none⟩ (start N vs) H := by
  refine At.mk2 (Γ := ⟨startD N ds, none⟩) ?_ ⟨fun a o h _ => h, e, Same.refl _, fun a o h => .inl ⟨o, h⟩, trivial, .inl rfl, fun a e => nomatch e⟩ (fun i b h => ?_) (fun i j a oi oj h1 _ _ _ => ?_) rfl
  · show (vs.map some ++ List.replicate (N.length - vs.length) none).length = (ds.map (fun d => some (B.fro d)) ++ List.replicate (N.length - ds.length) none).length
    rw [List.length_append, List.length_append, List.length_map, List.length_map, List.length_replicate, List.length_replicate, r.len]
  · obtain ⟨d, hd, rfl⟩ := startD_get h
    obtain ⟨v, hv, hr⟩ := r.get hd
    exact ⟨v, start_get hv, hr⟩
  · obtain ⟨d, _, z⟩ := startD_get h1
    cases z
/-- a def that knows nothing of the store, its function object being known -/
theorem okP1 {x : Str} {st : Stmt} {f : Addr} {fd : FuncData} {N ps : List Str} {k : Nat} {m : MP} (FF : Fun K x x st f fd) (S : FnScope N ps (defScope st)) (hl : ∀ ds κ, m ds κ → ds.length = ps.length)
    (hb : ∀ (f : Addr) (cdv : Value) (A : Around) (outer : List Env) (s : Shared) (H : Hp) (E : XK), Room k (A.deeper (envOfC x (defScope st) s.heap.objs.size f cdv)) →
      ∃ t T, PDSs (cxOf CX0 P w K mg base N x (defScope st) f cdv A outer s H E).nox W0 (defBody st) t T ∧ ∀ ds κ, m ds κ → T ⟨fun _ => κ (.fro .non), rtP κ, fun _ => False, fun _ => False, fun _ _ => False⟩ ⟨startD N ds, none⟩) :
    FnOk P w K mg base CX0 (k + 1) f fd ps (spP K m) := by
  refine FF.ok S (fun vs H Q E h => ?_) (fun cdv A outer s H vs Q E hr h => ?_)
  · obtain ⟨Hf, ds, _, r, hm⟩ := h
    rw [r.len]
    exact hl _ _ hm
  · obtain ⟨Hf, ds, e, r, hm⟩ := h
    obtain ⟨t, T, pd, q⟩ := hb f cdv A outer s H E hr
    refine ⟨t, pd.p, pd.s ⟨H, Hf, none⟩ Hf none ⟨startD N ds, none⟩ (start N vs) H _ _ (at_start e r) (q ds _ hm) ⟨fun Hf' aS Γ σ H' A' z => ?_, fun Hf' aS S' H' v r' c b' z => ?_, fun _ _ _ _ _ _ z => z, fun _ _ _ _ _ _ z => z, fun _ _ _ _ _ _ _ _ _ _ _ z => z⟩⟩
    · exact z .non H' Hf' (A'.co.noS rfl) Rep.non
    · cases r' with
      | sto => exact z.elim
      | lk d => exact z.2 v H' Hf' (c.noS rfl) (show Rep K Hf' v d from lk_sca b' z.1)
      | fro d => exact z v H' Hf' (c.noS rfl) b'
      | own o =>
        obtain ⟨a, e1, h1, h2, h3, h4⟩ := b'
        exact z v H' Hf' (c.noS rfl) ⟨a, e1, h1, h2, h3, fun e => nomatch e⟩
theorem okP {x : Str} {st : Stmt} {N ps : List Str} {k : Nat} {m : MP} (F : Df K mg x st ps) (S : FnScope N ps (defScope st)) (hl : ∀ ds κ, m ds κ → ds.length = ps.length)
    (mono : ∀ ds k k', (∀ b, k b → k' b) → m ds k → m ds k')
    (hb : ∀ (f : Addr) (cdv : Value) (A : Around) (outer : List Env) (s : Shared) (H : Hp) (E : XK), Room k (A.deeper (envOfC x (defScope st) s.heap.objs.size f cdv)) →
      ∃ t T, PDSs (cxOf CX0 P w K mg base N x (defScope st) f cdv A outer s H E).nox W0 (defBody st) t T ∧ ∀ ds κ, m ds κ → T ⟨fun _ => κ (.fro .non), rtP κ, fun _ => False, fun _ => False, fun _ _ => False⟩ ⟨startD N ds, none⟩) :
    Fp P w K mg base (k + 1) x m := by
  obtain ⟨f, fd, FF, g, b⟩ := F.ex
  exact ⟨⟨f, fd, ps, okP1 FF S hl hb, g, FF.kp, b⟩, mono⟩
/-- the promise that asks too much is kept by every def -/
theorem fp_none {x : Str} {st : Stmt} {ps : List Str} (F : Df K mg x st ps) (k : Nat) : Fp P w K mg base k x (fun _ _ => False) := by
  obtain ⟨f, fd, FF, g, b⟩ := F.ex
  refine ⟨⟨f, fd, ps, ⟨fun vs H Q E h => ?_, fun A outer s H args us vs Q E hr he hb hv h => ?_⟩, g, FF.kp, b⟩, fun _ _ _ _ h => h⟩
  · obtain ⟨_, _, _, _, hm⟩ := h
    exact hm.elim
  · obtain ⟨_, _, _, _, hm⟩ := h
    exact hm.elim
/-- a def whose first parameter is the store -/
theorem okS {x x0 : Str} {st : Stmt} {N ps : List Str} {k : Nat} {m : MS} (F : Df K mg x st (x0 :: ps)) (S : FnScope (x0 :: N) (x0 :: ps) (defScope st)) (hl : ∀ ds S κ, m ds S κ → ds.length = ps.length)
    (mono : ∀ ds S k k', (∀ b S, k b S → k' b S) → m ds S k → m ds S k')
    (hb : ∀ (f : Addr) (cdv : Value) (A : Around) (outer : List Env) (s : Shared) (H : Hp) (E : XK), Room k (A.deeper (envOfC x (defScope st) s.heap.objs.size f cdv)) →
      ∃ t T, PDSs (cxOf CX0 P w K mg base (x0 :: N) x (defScope st) f cdv A outer s H E).nox W0 (defBody st) t T ∧
        ∀ ds S κ, m ds S κ → T ⟨fun Γ => rtS κ (.fro .non) Γ.S, rtS κ, fun _ => False, fun _ => False, fun _ _ => False⟩ ⟨some .sto :: startD N ds, some S⟩) :
    Fs P w K mg base (k + 1) x m := by
  obtain ⟨f, fd, FF, g, b⟩ := F.ex
  refine ⟨⟨f, fd, x0 :: ps, FF.ok S (fun vs H Q E h => ?_) (fun cdv A outer s H vs Q E hr h => ?_), g, FF.kp, b⟩, mono⟩
  · obtain ⟨a, Hf, ds, S0, us, rfl, _, _, _, r, hm⟩ := h
    rw [List.length_cons, r.len, List.length_cons, hl _ _ _ hm]
  · obtain ⟨a, Hf, ds, S0, us, rfl, e, hs, hn, r, hm⟩ := h
    obtain ⟨t, T, pd, q⟩ := hb f cdv A outer s H E hr
    have A0 := at_start (N := N) e r
    have hst : start (x0 :: N) (V.ref a :: us) = some (V.ref a) :: start N us := by
      unfold L2.start
      rw [List.length_cons, List.length_cons, Nat.add_sub_add_right]
      rfl
    have hup : ∀ {Hf' : Hp} {aS : Option Addr} {S' : Option Sto} {H' : Hp}, Co ⟨H, Hf, some a⟩ Hf' aS S' H' → ∃ S1, S' = some S1 ∧ aS = some a := fun {Hf' aS S' H'} c => by
      have h0 : aS = some a := by
        rcases c.st0 with z | z
        · cases z
        · exact z.symm
      have z := c.sto
      rw [h0] at z
      cases S' with
      | none => exact z.elim
      | some S1 => exact ⟨S1, rfl, h0⟩
    obtain ⟨κ, hκ⟩ : ∃ κ : B → Sto → Prop, κ = fun r S' => ∀ v H' Hf', Co ⟨H, Hf, some a⟩ Hf' (some a) (some S') H' → RAt K ⟨H, Hf, some a⟩ Hf' (some a) H' v r → Q v H' := ⟨_, rfl⟩
    rw [← hκ] at hm
    refine ⟨t, pd.p, pd.s ⟨H, Hf, some a⟩ Hf (some a) ⟨some .sto :: startD N ds, some S0⟩ (start (x0 :: N) (V.ref a :: us)) H ⟨fun Γ => rtS κ (.fro .non) Γ.S, rtS κ, fun _ => False, fun _ => False, fun _ _ => False⟩ _ ?_ (q ds S0 κ hm) ⟨fun Hf' aS Γ σ H' A' z => ?_, fun Hf' aS S' H' v r' c b' z => ?_, fun _ _ _ _ _ _ z => z, fun _ _ _ _ _ _ z => z, fun _ _ _ _ _ _ _ _ _ _ _ z => z⟩⟩
    · rw [hst]
      refine At.mk2 (Γ := ⟨some .sto :: startD N ds, some S0⟩) (congrArg (· + 1) A0.len) ⟨fun a o h _ => h, e, Same.refl _, fun a o h => .inl ⟨o, h⟩, ⟨hs, hn⟩, .inr rfl, fun a e n => nomatch n⟩ (fun i b h => ?_) (fun i j a oi oj h1 _ _ _ => ?_) rfl
      · cases i with
        | zero =>
          have h := Option.some.inj (Option.some.inj h)
          subst h
          exact ⟨.ref a, rfl, a, rfl, rfl⟩
        | succ i =>
          obtain ⟨v, hv, hb⟩ := A0.slot i b h
          refine ⟨v, hv, ?_⟩
          obtain ⟨d, _, rfl⟩ := startD_get h
          exact hb
      · cases i with
        | zero => cases Option.some.inj (Option.some.inj h1)
        | succ i =>
          obtain ⟨d, _, z⟩ := startD_get h1
          cases z
    · obtain ⟨S1, e1, e2⟩ := hup A'.co
      subst e2
      have c := A'.co
      rw [e1] at c
      have z1 := rtS_get (κ := κ) z e1
      rw [hκ] at z1
      exact z1 .non H' Hf' c Rep.non
    · obtain ⟨S1, e1, e2⟩ := hup c
      subst e1 e2
      cases r' with
      | sto => exact z.elim
      | lk d =>
        obtain ⟨z0, z1⟩ := (show d.sca = true ∧ κ (.fro d) S1 from z)
        rw [hκ] at z1
        exact z1 v H' Hf' c (show Rep K Hf' v d from lk_sca b' z0)
      | fro d =>
        have z1 : κ (.fro d) S1 := z
        rw [hκ] at z1
        exact z1 v H' Hf' c b'
      | own o =>
        have z1 : κ (.own o) S1 := z
        rw [hκ] at z1
        exact z1 v H' Hf' c b'
end

/-! ### expressions -/
abbrev subD := intD0 fun i j => D.int (i - j)
abbrev fdivD := intD CDivW fun i j => D.int (i / j)
abbrev modD := intD (fun _ j => 0 < j) fun i j => D.int (i % j)
abbrev powD := intD CPow fun i j => D.int (i ^ j.toNat)
abbrev ltD := ordD (fun i j => decide (i < j)) ltS
abbrev leD := ordD (fun i j => decide (i ≤ j)) fun i j => !ltS j i
abbrev gtD := ordD (fun i j => decide (j < i)) fun i j => ltS j i
abbrev geD := ordD (fun i j => decide (j ≤ i)) fun i j => !ltS i j
section
variable {X : Cx} {e a b c : Expr} {es : List Expr} {t u ta tb : TE} {T U : DE} {TO UO : DO} {pos : Pos}
theorem PDE.toO (h : PDE X e t T) : PDO X e t (dUp T) := ⟨h.p, h.s.o⟩
theorem PDO.toE (h : PDO X e t TO) : PDE X e t (dFz TO) := ⟨h.p, h.s.e⟩
theorem PDO.toQ (h : PDO X e t TO) : PDQ X e t (dFz TO) := ⟨h.p, h.s.e.q⟩
theorem e_v (i : Nat) {x : Str} (hN : X.N[i]? = some x := by rfl) (hv : Vis X.env.scope x := by first | exact Or.inl rfl | exact Or.inr (Or.inl rfl) | exact Or.inr (Or.inr rfl)) (hd : (x == ("__debug__" : Str)) = false := by decide)
    (hcd : (x == ("__classdict__" : Str)) = false := by decide) : PDE X (.Name x pos) (tVar i) (dVar i) := ⟨pv i hN hv hd hcd, se_var i⟩
theorem q_v (i : Nat) {x : Str} (hN : X.N[i]? = some x := by rfl) (hv : Vis X.env.scope x := by first | exact Or.inl rfl | exact Or.inr (Or.inl rfl) | exact Or.inr (Or.inr rfl)) (hd : (x == ("__debug__" : Str)) = false := by decide)
    (hcd : (x == ("__classdict__" : Str)) = false := by decide) : PDQ X (.Name x pos) (tVar i) (dVarQ i) := ⟨pv i hN hv hd hcd, sq_var i⟩
theorem o_v (i : Nat) {x : Str} (hN : X.N[i]? = some x := by rfl) (hv : Vis X.env.scope x := by first | exact Or.inl rfl | exact Or.inr (Or.inl rfl) | exact Or.inr (Or.inr rfl)) (hd : (x == ("__debug__" : Str)) = false := by decide)
    (hcd : (x == ("__classdict__" : Str)) = false := by decide) : PDO X (.Name x pos) (tVar i) (dMove i) := ⟨pv i hN hv hd hcd, so_move i⟩
theorem e_int {i j} : PDE X (.Constant (.int i) j pos) (tC (.int i)) (dC (.int i)) := ⟨pe_int, se_c fun _ => .int i⟩
theorem e_bl {i j} : PDE X (.Constant (.bool i) j pos) (tC (.bl i)) (dC (.bl i)) := ⟨pe_bl, se_c fun _ => .bl i⟩
theorem e_non {j} : PDE X (.Constant .none j pos) (tC .non) (dC .non) := ⟨pe_non, se_c fun _ => .non⟩
theorem e_str {i j} : PDE X (.Constant (.str i) j pos) (tC (.str i)) (dC (.str i)) := ⟨pe_str, se_c fun _ => .str i⟩
theorem o_add (ha : PDQ X a ta T) (hb : PDQ X b tb U) : PDO X (.BinOp a .Add b pos) (tOp (rAddD X.K) ta tb) (dOp addD T U) := ⟨pe_op op_addD ha.p hb.p, so_op op2_add ha.s hb.s⟩
theorem o_sub (ha : PDQ X a ta T) (hb : PDQ X b tb U) : PDO X (.BinOp a .Sub b pos) (tOp (rI0 fun i j => .int (i - j)) ta tb) (dOp (intD0 fun i j => .int (i - j)) T U) := ⟨pe_op op_sub ha.p hb.p, so_op (op2_int0 fun _ _ _ => .int _) ha.s hb.s⟩
theorem o_mul (ha : PDQ X a ta T) (hb : PDQ X b tb U) : PDO X (.BinOp a .Mult b pos) (tOp (rMulD X.K) ta tb) (dOp mulD T U) := ⟨pe_op op_mulA ha.p hb.p, so_op op2_mul ha.s hb.s⟩
theorem o_fdiv (ha : PDQ X a ta T) (hb : PDQ X b tb U) : PDO X (.BinOp a .FloorDiv b pos) (tOp (rI CDivW fun i j => .int (i / j)) ta tb) (dOp (intD CDivW fun i j => .int (i / j)) T U) := ⟨pe_op op_fdivW ha.p hb.p, so_op (op2_int fun _ _ _ => .int _) ha.s hb.s⟩
theorem o_mod (ha : PDQ X a ta T) (hb : PDQ X b tb U) : PDO X (.BinOp a .Mod b pos) (tOp (rI (fun _ j => 0 < j) fun i j => .int (i % j)) ta tb) (dOp (intD (fun _ j => 0 < j) fun i j => .int (i % j)) T U) := ⟨pe_op op_mod ha.p hb.p, so_op (op2_int fun _ _ _ => .int _) ha.s hb.s⟩
theorem o_pow (ha : PDQ X a ta T) (hb : PDQ X b tb U) : PDO X (.BinOp a .Pow b pos) (tOp (rI CPow fun i j => .int (i ^ j.toNat)) ta tb) (dOp (intD CPow fun i j => .int (i ^ j.toNat)) T U) := ⟨pe_op op_pow ha.p hb.p, so_op (op2_int fun _ _ _ => .int _) ha.s hb.s⟩
def negD (d : D) (k : B → Prop) : Prop := match d with
  | .int i => k (.fro (.int (-i)))
  | _ => False
def dUn (o : D → (B → Prop) → Prop) (T : DE) : DO := fun Γ Φ => T Γ fun d Γ1 => o d fun b => Φ b Γ1
theorem o_neg (ha : PDQ X a ta T) : PDO X (.UnaryOp .USub a pos) (tUn (rU fun i => .int (-i)) ta) (dUn negD T) := ⟨pe_un un_neg ha.p, fun y Hf aS Γ σ H Φ Q A hT k =>
  ha.s y Hf aS Γ σ H _ _ A hT fun d Γ1 v Hf1 H1 A1 e1 k1 r1 hT1 => by
    unfold negD at hT1
    split at hT1
    · have e := r1.int
      subst e
      exact ⟨_, rfl, k (.fro (.int _)) Γ1 _ Hf1 H1 A1 e1 k1 (Rep.int _) trivial hT1⟩
    · exact hT1.elim⟩
theorem o_cmp {op : CmpOp} {r : R2} {o : D → D → (B → Prop) → Prop} (ho : OpR X (compareOp op) r) (h2 : Op2 X.K r o) (ha : PDQ X a ta T) (hb : PDQ X b tb U) (hm : behindInMarks op b = false := by first | exact nomark _ | rfl) :
    PDO X (.Compare a [op] [b] pos) (tOp r ta tb) (dOp o T U) := ⟨pe_cmpR ho ha.p hb.p hm, so_op h2 ha.s hb.s⟩
theorem t_cmp {op : CmpOp} {r : R2} {o : D → D → (B → Prop) → Prop} (ho : OpR X (compareOp op) r) (h2 : Op2 X.K r o) (ha : PDQ X a ta T) (hb : PDQ X b tb U) (hm : behindInMarks op b = false := by first | exact nomark _ | rfl) :
    PDT X (.Compare a [op] [b] pos) (tTest (tOp r ta tb)) (dTest (dOp o T U)) := ⟨pt_cmpR ho ha.p hb.p hm, st_test (so_op h2 ha.s hb.s)⟩
theorem t_val (h : PDO X e t TO) (he : ∀ whole, isTrue e X.env whole = (do let v ← whole; standAt e.pos; holding [v] (truthy v)) := by intro _; rfl) : PDT X e (tB t) (dTest TO) := ⟨pt_val h.p he, st_val h.s⟩
theorem t_tru (h : PDQ X e t T) (he : ∀ whole, isTrue e X.env whole = (do let v ← whole; standAt e.pos; holding [v] (truthy v)) := by intro _; rfl) : PDT X e (fun σ H Q => t σ H fun x H' => ∃ k, TruV X.K x H' k ∧ Q k H') (dTru T) := ⟨pt_truth h.p he, st_tru h.s⟩
variable {tt tu : TT} {DT1 DT2 : DT} {rest : List Expr}
theorem PDW.toT (h : PDW X e tt DT1) : PDT X e tt DT1 := ⟨h.p.pt, h.s⟩
theorem w_and1 (h : PDT X a tt DT1) : PDW X (.BoolOp .And [a] pos) tt DT1 := ⟨pw_and1 h.p, h.s⟩
theorem w_or1 (h : PDT X a tt DT1) : PDW X (.BoolOp .Or [a] pos) tt DT1 := ⟨pw_or1 h.p, h.s⟩
theorem w_and (h : PDT X a tt DT1) (g : PDW X (.BoolOp .And (b :: rest) pos) tu DT2) : PDW X (.BoolOp .And (a :: b :: rest) pos) (tAnd tt tu) (dAnd DT1 DT2) := ⟨pw_and h.p g.p, st_and h.s g.s⟩
theorem w_or (h : PDT X a tt DT1) (g : PDW X (.BoolOp .Or (b :: rest) pos) tu DT2) : PDW X (.BoolOp .Or (a :: b :: rest) pos) (tOr tt tu) (dOr DT1 DT2) := ⟨pw_or h.p g.p, st_or h.s g.s⟩
theorem t_not (h : PDT X a tt DT1) : PDT X (.UnaryOp .Not a pos) (tNot tt) (dNot DT1) := ⟨pt_not h.p, st_not h.s⟩
theorem o_one {op : BoolOp} (h : PDO X a t TO) : PDO X (.BoolOp op [a] pos) t TO := ⟨pe_one h.p, h.s⟩
theorem o_and (h : PDE X a ta T) (g : PDO X (.BoolOp .And (b :: rest) pos) tb UO) : PDO X (.BoolOp .And (a :: b :: rest) pos) (tAndT X.K ta tb) (dAndV T UO) := ⟨pe_andT h.p g.p, so_and h.s g.s⟩
theorem o_or (h : PDE X a ta T) (g : PDO X (.BoolOp .Or (b :: rest) pos) tb UO) : PDO X (.BoolOp .Or (a :: b :: rest) pos) (tOrT X.K ta tb) (dOrV T UO) := ⟨pe_orT h.p g.p, so_or h.s g.s⟩
theorem o_not (h : PDQ X a ta T) : PDO X (.UnaryOp .Not a pos) (tNotT X.K ta) (dNotV T) := ⟨pe_notT h.p, so_not h.s⟩
theorem o_ifE (hc : PDT X c tt DT1) (h : PDO X a ta TO) (g : PDO X b tb UO) : PDO X (.IfExp c a b pos) (tIf tt ta tb) (dIfE DT1 TO UO) := ⟨pe_ifExp hc.p h.p g.p, so_ifE hc.s h.s g.s⟩
theorem o_ix (ha : PDQ X a ta T) (hb : PDQ X b tb U) (hs : PlainIx b := by exact fun _ _ => rfl) : PDO X (.Subscript a b pos) (tOp (rIx X.K) ta tb) (dOp ixD T U) := ⟨pe_ix ix_seq ha.p hb.p hs, so_op op2_ix ha.s hb.s⟩
theorem e_sto (i : Nat) {c : Int} {x : Str} {p1 p2 : Pos} {j} (hN : X.N[i]? = some x := by rfl) (hv : Vis X.env.scope x := by first | exact Or.inl rfl | exact Or.inr (Or.inl rfl) | exact Or.inr (Or.inr rfl)) (hd : (x == ("__debug__" : Str)) = false := by decide)
    (hcd : (x == ("__classdict__" : Str)) = false := by decide) (hs : PlainIx (.Constant (.int c) j p2) := by exact fun _ _ => rfl) : PDE X (.Subscript (.Name x p1) (.Constant (.int c) j p2) pos) (tOp (rIx X.K) (tVar i) (tC (.int c))) (dStoG i c) :=
  ⟨pe_ix ix_seq (pv i hN hv hd hcd) pe_int hs, se_stoG i c⟩
variable {lo hi : Option Expr} {tl th : L2.TO} {Tl Th : DP} {p2 : Pos}
theorem p_no : PDP' X none tNoPart dNoP := ⟨po_none, spt_no⟩
theorem p_some (h : PDQ X e t T) : PDP' X (some e) (tPart t) (dPart T) := ⟨po_some h.p, spt_some h.s⟩
theorem o_sl (h : PDQ X e t T) (hl : PDP' X lo tl Tl) (hh : PDP' X hi th Th) : PDO X (.Subscript e (.Slice lo hi none p2) pos) (tSl (rSlD X.K) t tl th) (dSl T Tl Th) := ⟨pe_slice sl_any h.p hl.p hh.p, so_slice h.s hl.s hh.s⟩
theorem e_revT {k : Nat} {p1 p3 p4 : Pos} (h : PDQ X e t T) : PDE X (.Subscript e (.Slice none none (some (.UnaryOp .USub (.Constant (.int 1) k p1) p3)) p4) pos) (tRevT X.K t) (dRevT T) := ⟨pe_revT h.p, se_revT h.s⟩
theorem o_revL {k : Nat} {p1 p3 p4 : Pos} (h : PDQ X e t T) : PDO X (.Subscript e (.Slice none none (some (.UnaryOp .USub (.Constant (.int 1) k p1) p3)) p4) pos) (tRevL X.K t) (dRevL T) := ⟨pe_revL h.p, so_revL h.s⟩
variable {tas : TA} {TAs : DA}
theorem a_nil : PDA X [] tNil dNil := ⟨pa_nil, sa_nil⟩
theorem a_cons (h : PDE X e t T) (g : PDA X es tas TAs) (hs : starEach (e :: es) X.env = (false, eval e X.env) :: starEach es X.env := by rfl) : PDA X (e :: es) (tCons t tas) (dCons T TAs) := ⟨pa_cons h.p g.p hs, sa_cons h.s g.s⟩
theorem aq_nil : PDQA X [] tNil dNil := ⟨pa_nil, sqa_nil⟩
theorem aq_cons (h : PDQ X e t T) (g : PDQA X es tas TAs) (hs : starEach (e :: es) X.env = (false, eval e X.env) :: starEach es X.env := by rfl) : PDQA X (e :: es) (tCons t tas) (dCons T TAs) := ⟨pa_cons h.p g.p hs, sqa_cons h.s g.s⟩
theorem e_tup {x1} (h : PDA X es tas TAs) : PDE X (.Tuple es x1 pos) (tTup tas) (dTup TAs) := ⟨pe_tup h.p, se_tup h.s⟩
theorem o_lst (h : PDA X es tas TAs) : PDO X (.List es pos) (tLst tas) (dLst TAs) := ⟨pe_lst h.p, so_lst h.s⟩
variable {id x : Str} {p : Pos}
theorem o_cb {id : String} {r : List V → Hp → VK → Prop} {o : List D → (B → Prop) → Prop} (hc : CallR X (.builtin id) r) (hcl : Cl X.K r o) (hm : X.mg x = none) (hv : bootBuiltins x = some (.builtin id)) (ha : PDQA X (e :: es) tas TAs) (hg : Gl X x := by rfl)
    (hn : x ≠ "__name__" := by decide) (hdb : (x == ("__debug__" : Str)) = false := by decide)
    (he : starEach (e :: es) X.env = (false, eval e X.env) :: starEach es X.env := by rfl) (hpl : (backTo pos (starEach es X.env)).any (·.1) = false := by rfl) : PDO X (.Call (.Name x p) (e :: es) [] pos) (tCB r tas) (dCl o TAs) :=
  ⟨pe_callB hc hg hm hv ha.p hn hdb he hpl, so_cl hcl ha.s⟩
theorem o_ct {ty : String} {r : List V → Hp → VK → Prop} {o : List D → (B → Prop) → Prop} (hc : CallR X (.type ty) r) (hcl : Cl X.K r o) (hm : X.mg x = none) (hv : bootBuiltins x = some (.type ty)) (ha : PDQA X (e :: es) tas TAs) (hg : Gl X x := by rfl)
    (hn : x ≠ "__name__" := by decide) (hdb : (x == ("__debug__" : Str)) = false := by decide)
    (he : starEach (e :: es) X.env = (false, eval e X.env) :: starEach es X.env := by rfl) (hpl : (backTo pos (starEach es X.env)).any (·.1) = false := by rfl) : PDO X (.Call (.Name x p) (e :: es) [] pos) (tCB r tas) (dCl o TAs) :=
  ⟨pe_callTy hc hg hm hv ha.p hn hdb he hpl, so_cl hcl ha.s⟩
theorem o_call {j k : Nat} {m : MP} (F : Fp X.prog X.w X.K X.mg X.base j x m) (hr : Room k X.A) (hj : j ≤ k) (ha : PDA X (e :: es) tas TAs) (hg : Gl X x := by rfl) (hdb : (x == ("__debug__" : Str)) = false := by decide)
    (he : starEach (e :: es) X.env = (false, eval e X.env) :: starEach es X.env := by rfl) (hpl : (backTo pos (starEach es X.env)).any (·.1) = false := by rfl) :
    PDO X (.Call (.Name x p) (e :: es) [] pos) (tCall (spP X.K m) [] E0 tas) (dCall m [] TAs) := by
  obtain ⟨f, fd, ps, G, g, kp, b⟩ := F.ex
  exact ⟨pe_call G (hr.mono hj) hg g kp b .nil pass0 ha.p hdb he hpl, so_call (fun _ => .nil) ha.s F.mono⟩
theorem e_callQ {j k : Nat} {m : MP} (F : Fp X.prog X.w X.K X.mg X.base j x m) (hr : Room k X.A) (hj : j ≤ k) (ha : PDQA X (e :: es) tas TAs) (hg : Gl X x := by rfl) (hdb : (x == ("__debug__" : Str)) = false := by decide)
    (he : starEach (e :: es) X.env = (false, eval e X.env) :: starEach es X.env := by rfl) (hpl : (backTo pos (starEach es X.env)).any (·.1) = false := by rfl) :
    PDE X (.Call (.Name x p) (e :: es) [] pos) (tCall (spP X.K m) [] E0 tas) (dCallQ m [] TAs) := by
  obtain ⟨f, fd, ps, G, g, kp, b⟩ := F.ex
  exact ⟨pe_call G (hr.mono hj) hg g kp b .nil pass0 ha.p hdb he hpl, se_callQ (fun _ => .nil) ha.s F.mono⟩
theorem o_callS {j k : Nat} {m : MS} (i : Nat) {z : Str} {pz : Pos} (F : Fs X.prog X.w X.K X.mg X.base j x m) (hr : Room k X.A) (hj : j ≤ k) (ha : PDA X es tas TAs) (hN : X.N[i]? = some z := by rfl) (hv : Vis X.env.scope z := by first | exact Or.inl rfl | exact Or.inr (Or.inl rfl) | exact Or.inr (Or.inr rfl)) (hd : (z == ("__debug__" : Str)) = false := by decide)
    (hcd : (z == ("__classdict__" : Str)) = false := by decide) (hg : Gl X x := by rfl) (hdb : (x == ("__debug__" : Str)) = false := by decide)
    (he : starEach (.Name z pz :: es) X.env = (false, eval (.Name z pz) X.env) :: starEach es X.env := by rfl) (hpl : (backTo pos (starEach es X.env)).any (·.1) = false := by rfl) :
    PDO X (.Call (.Name x p) (.Name z pz :: es) [] pos) (tCall (spS X.K m) [] E0 (tCons (tVar i) tas)) (dCallS m i TAs) := by
  obtain ⟨f, fd, ps, G, g, kp, b⟩ := F.ex
  exact ⟨pe_call G (hr.mono hj) hg g kp b .nil pass0 (pa_cons (pv i hN hv hd hcd) ha.p he) hdb he hpl, so_callS i ha.s F.mono⟩
end

/-! ### statements -/
section
variable {X : Cx} {e a b c : Expr} {es : List Expr} {t u ta tb : TE} {T U : DE} {TO UO : DO} {pos : Pos} {tt : TT} {DT1 : DT} {st : Stmt} {sts : List Stmt} {ts tr : TS} {Ts Tr : DS}
theorem b_nil : PDSs X ξ [] tNext dNext := ⟨pss_nil, ss_next⟩
theorem b_cons (h : PDS X ξ st ts Ts) (g : PDSs X ξ sts tr Tr) : PDSs X ξ (st :: sts) (tSeq ts tr) (dSeq Ts Tr) := ⟨pss_cons h.p g.p, ss_seq h.s g.s⟩
theorem b_one (h : PDS X ξ st ts Ts) : PDSs X ξ [st] ts Ts := ⟨pss_one h.p, h.s⟩
def dNever : DS := fun _ _ => False
theorem b_never : PDSs X ξ sts tNever dNever := ⟨pss_never, fun _ _ _ _ _ _ _ _ _ hT _ => hT.elim⟩
theorem s_pass : PDS X ξ (.Pass pos) tNext dNext := ⟨ps_pass, ss_next⟩
theorem s_brk : PDS X ξ (.Break pos) tBreak dBrk := ⟨ps_break, ss_brk⟩
theorem s_cnt : PDS X ξ (.Continue pos) tCont dCnt := ⟨ps_continue, ss_cnt⟩
theorem s_ret (h : PDO X e t TO) : PDS X ξ (.Return (some e) pos) (tRet t) (dRet TO) := ⟨ps_ret h.p, ss_ret h.s⟩
theorem s_retN : PDS X ξ (.Return none pos) tRetN dRetN := ⟨ps_retN, ss_retN⟩
theorem s_drop (h : PDO X e t TO) (hs : swapsWith e none pos.line X.env = pure false := by rfl) : PDS X ξ (.Expr e pos) (tDrop t) (dDrop TO) := ⟨ps_expr h.p hs, ss_drop h.s⟩
theorem s_if {A B : List Stmt} (hc : PDT X c tt DT1) (h : PDSs X ξ A ts Ts) (g : PDSs X ξ B tr Tr) : PDS X ξ (.If c A B pos) (tIfS tt ts tr) (dIf DT1 Ts Tr) := ⟨ps_if hc.p h.p g.p, ss_if hc.s h.s g.s⟩
theorem s_set (i : Nat) {x : Str} {p : Pos} (hN : X.N.Nodup) (h : PDO X e t TO) (hi : X.N[i]? = some x := by rfl) (hx : Loc X.env.scope x := by first | exact .inl rfl | exact .inr rfl) (hs : swapsWith e (some (.Name x p)) pos.line X.env = pure false := by rfl)
    (hf : X.fn x = true ∨ X.env.scope.names.lookup x = some .local := by first | exact .inl rfl | exact .inr rfl) : PDS X ξ (.Assign [.Name x p] e pos) (tAsg t (gName i)) (dSet i TO) := ⟨ps_set hN hi hx h.p hs hf, ss_set i h.s⟩
theorem s_setSto (i : Nat) {x : Str} {p : Pos} (hN : X.N.Nodup) (h : PDO X e t TO) (hi : X.N[i]? = some x := by rfl) (hx : Loc X.env.scope x := by first | exact .inl rfl | exact .inr rfl) (hs : swapsWith e (some (.Name x p)) pos.line X.env = pure false := by rfl)
    (hf : X.fn x = true ∨ X.env.scope.names.lookup x = some .local := by first | exact .inl rfl | exact .inr rfl) : PDS X ξ (.Assign [.Name x p] e pos) (tAsg t (gName i)) (dSetSto i TO) := ⟨ps_set hN hi hx h.p hs hf, ss_setSto i h.s⟩
theorem s_stoP (i : Nat) {cc : Int} {x : Str} {p1 p2 p3 : Pos} {j} (h : PDE X e t T) (hN : X.N[i]? = some x := by rfl) (hv : Vis X.env.scope x := by first | exact Or.inl rfl | exact Or.inr (Or.inl rfl) | exact Or.inr (Or.inr rfl)) (hd : (x == ("__debug__" : Str)) = false := by decide)
    (hcd : (x == ("__classdict__" : Str)) = false := by decide) (hs : swapsWithSole [.Subscript (.Name x p1) (.Constant (.int cc) j p2) p3] e pos.line X.env = pure false := by rfl) (hw : swappedStores [.Subscript (.Name x p1) (.Constant (.int cc) j p2) p3] e X.env = pure none := by rfl)
    (h1 : (assignEach [.Subscript (.Name x p1) (.Constant (.int cc) j p2) p3] X.env).map (·.2) = [assign (.Subscript (.Name x p1) (.Constant (.int cc) j p2) p3) X.env] := by rfl) :
    PDS X ξ (.Assign [.Subscript (.Name x p1) (.Constant (.int cc) j p2) p3] e pos) (tAsg t (gSub (tVar i) (tC (.int cc)) rSetL)) (dStoP i cc T) := ⟨ps_asg h.p (pg_sub (pv i hN hv hd hcd) pe_int set_list) hs hw h1, ss_stoP i cc h.s⟩
theorem s_putL (i : Nat) {x : Str} {p1 p3 : Pos} (h : PDE X e t T) (g : PDQ X b u U) (hN : X.N[i]? = some x := by rfl) (hv : Vis X.env.scope x := by first | exact Or.inl rfl | exact Or.inr (Or.inl rfl) | exact Or.inr (Or.inr rfl)) (hd : (x == ("__debug__" : Str)) = false := by decide)
    (hcd : (x == ("__classdict__" : Str)) = false := by decide) (hs : swapsWithSole [.Subscript (.Name x p1) b p3] e pos.line X.env = pure false := by rfl) (hw : swappedStores [.Subscript (.Name x p1) b p3] e X.env = pure none := by rfl)
    (h1 : (assignEach [.Subscript (.Name x p1) b p3] X.env).map (·.2) = [assign (.Subscript (.Name x p1) b p3) X.env] := by rfl)
    (hq : ∀ v, assign (.Subscript (.Name x p1) b p3) X.env v = (do
      let ov ← holding [v] (eval (.Name x p1) X.env)
      let iv ← holding [v, ov] (eval b X.env)
      standAt p3
      holding [v, ov, iv] (setItem ov iv v)
      release [v, ov, iv] []) := by intro _; rfl) :
    PDS X ξ (.Assign [.Subscript (.Name x p1) b p3] e pos) (tAsg t (gSub (tVar i) u rSetL)) (dPutL i T U) := ⟨ps_asg h.p (pg_sub (pv i hN hv hd hcd) g.p set_list hq) hs hw h1, ss_putL i h.s g.s⟩
theorem s_app (i : Nat) {x : Str} {p1 p2 p3 : Pos} (h : PDE X e t T) (hN : X.N[i]? = some x := by rfl) (hv : Vis X.env.scope x := by first | exact Or.inl rfl | exact Or.inr (Or.inl rfl) | exact Or.inr (Or.inr rfl)) (hd : (x == ("__debug__" : Str)) = false := by decide)
    (hcd : (x == ("__classdict__" : Str)) = false := by decide) (hbase : attributeBase (.Name x p1) "append" X.env (eval (.Name x p1) X.env) = eval (.Name x p1) X.env := by rfl)
    (hfew : ((backTo p3 (starEach [e] X.env)).all (fun x => !x.1) && (backToKw p3 (keywordEach [] X.env)).all (fun x => x.1.isSome)
      && decide ([e].length + ([] : List Keyword).length + (if ([] : List Keyword).isEmpty then 0 else 1) < 30)) = true := by rfl)
    (hline : (p2.endLine == p3.line) = true := by rfl) (hs : starEach [e] X.env = (false, eval e X.env) :: starEach [] X.env := by rfl) (hsw : swapsWith (.Call (.Attribute (.Name x p1) "append" p2) [e] [] p3) none pos.line X.env = pure false := by rfl) :
    PDS X ξ (.Expr (.Call (.Attribute (.Name x p1) "append" p2) [e] [] p3) pos) (tDrop (tBM X.K "list" rAppend (tVar i) (tCons t tNil))) (dApp i T) :=
  ⟨ps_expr (pe_bm PySem.F.plainAttrs_list PySem.F.slot_list_append PySem.F.type_list_append mt_append (pv i hN hv hd hcd) (pa_cons h.p pa_nil hs) hbase hfew hline hs rfl) hsw, ss_app i h.s⟩
theorem s_pop (i : Nat) {x : Str} {p1 p2 p3 : Pos} (hN : X.N[i]? = some x := by rfl) (hv : Vis X.env.scope x := by first | exact Or.inl rfl | exact Or.inr (Or.inl rfl) | exact Or.inr (Or.inr rfl)) (hd : (x == ("__debug__" : Str)) = false := by decide)
    (hcd : (x == ("__classdict__" : Str)) = false := by decide) (hbase : attributeBase (.Name x p1) "pop" X.env (eval (.Name x p1) X.env) = eval (.Name x p1) X.env := by rfl) (hline : (p2.endLine == p3.line) = true := by rfl)
    (hsw : swapsWith (.Call (.Attribute (.Name x p1) "pop" p2) [] [] p3) none pos.line X.env = pure false := by rfl) :
    PDS X ξ (.Expr (.Call (.Attribute (.Name x p1) "pop" p2) [] [] p3) pos) (tDrop (tBM0 X.K "list" rPop (tVar i))) (dPop i) :=
  ⟨ps_expr (pe_bm0 PySem.F.plainAttrs_list PySem.F.slot_list_pop PySem.F.type_list_pop mt_pop (pv i hN hv hd hcd) hbase hline) hsw, ss_pop i⟩
theorem s_augA (i : Nat) {x : Str} {p : Pos} (hN : X.N.Nodup) (h : PDE X e t T) (hi : X.N[i]? = some x := by rfl) (hx : Loc X.env.scope x := by first | exact .inl rfl | exact .inr rfl)
    (hf : X.fn x = true ∨ X.env.scope.names.lookup x = some .local := by first | exact .inl rfl | exact .inr rfl) : PDS X ξ (.AugAssign (.Name x p) .Add e pos) (tAug i t (ipI fun i j => i + j)) (dAug i (augI fun i j => i + j) T) := ⟨ps_aug hN hi hx h.p ip_add hf, ss_aug i h.s⟩
variable {g : TG} {G : DG} {js : List Nat} {wi : TI} {W : DA} {tg iter : Expr} {body : List Stmt}
theorem g_n (i : Nat) {x : Str} (hN : X.N.Nodup) (hi : X.N[i]? = some x := by rfl) (hx : Loc X.env.scope x := by first | exact .inl rfl | exact .inr rfl)
    (hf : X.fn x = true ∨ X.env.scope.names.lookup x = some .local := by first | exact .inl rfl | exact .inr rfl) : PDG X (.Name x pos) (gName i) (dGN i) [i] := ⟨pg_name hN hi hx hf, sg_name i⟩
structure PDGs (X : Cx) (es : List Expr) (g : TGs) (G : DGs) (js : List Nat) : Prop where
  p : PGs X es g
  s : SGs X.K g G js
theorem gs_nil : PDGs X [] gNil dGNil [] := ⟨pgs_nil, sgs_nil⟩
theorem gs_cons {gs : TGs} {Gs : DGs} {ks : List Nat} (h : PDG X e g G js) (h2 : PDGs X es gs Gs ks) (hs : (assignEach (e :: es) X.env).map (·.2) = assign e X.env :: (assignEach es X.env).map (·.2) := by rfl) :
    PDGs X (e :: es) (gCons g gs) (dGCons G Gs) (js ++ ks) := ⟨pgs_cons h.p h2.p hs, sgs_cons h.s h2.s⟩
theorem g_tup {gs : TGs} {Gs : DGs} {n k : Nat} (h : PDGs X es gs Gs js) (hc : X.calm = true := by rfl) (hn : (assignEach es X.env).length = n := by rfl) (hst : (assignEach es X.env).findIdx? (·.1) = none := by rfl) :
    PDG X (.Tuple es k pos) (gTup X.K n gs) (dGT n Gs) js := ⟨pg_tup hc h.p hn hst, sg_tup h.s⟩
theorem s_asgG (h : PDE X e t T) (hg : PDG X tg g G js) (hs : swapsWithSole [tg] e pos.line X.env = pure false := by rfl) (hw : swappedStores [tg] e X.env = pure none := by rfl)
    (h1 : (assignEach [tg] X.env).map (·.2) = [assign tg X.env] := by rfl) : PDS X ξ (.Assign [tg] e pos) (tAsg t g) (dAsgG T G) := ⟨ps_asg h.p hg.p hs hw h1, ss_asgG h.s hg.s⟩
theorem i_list (h : PDE X e t T) : PDI X tg e (iList X.K t) (dIL T) := ⟨pi_list h.p, si_list h.s⟩
theorem i_tup (h : PDE X e t T) : PDI X tg e (iTup X.K t) (dIT T) := ⟨pi_tup h.p, si_tup h.s⟩
theorem i_r1 {p : Pos} (hm : X.mg "range" = none) (h : PDQ X a ta T) (hg : Gl X "range" := by rfl) (ha : starEach [a] X.env = (false, eval a X.env) :: starEach [] X.env := by rfl) (hs : starEach [a] X.env = [(false, eval a X.env)] := by rfl) :
    PDI X tg (.Call (.Name "range" p) [a] [] pos) (iRng1 (tCons ta tNil)) (dIR1 T) := ⟨pi_range1 hg hm (pa_cons h.p pa_nil ha) hs, si_rng1 h.s⟩
theorem i_r2 {p : Pos} (hm : X.mg "range" = none) (h : PDQ X a ta T) (h' : PDQ X b tb U) (hg : Gl X "range" := by rfl) (ha : starEach [a, b] X.env = (false, eval a X.env) :: starEach [b] X.env := by rfl) (hb : starEach [b] X.env = (false, eval b X.env) :: starEach [] X.env := by rfl)
    (hs : starEach [a, b] X.env = [(false, eval a X.env), (false, eval b X.env)] := by rfl) (hs2 : starEach [b] X.env = [(false, eval b X.env)] := by rfl) :
    PDI X tg (.Call (.Name "range" p) [a, b] [] pos) (iRng2 (tCons ta (tCons tb tNil))) (dIR2 T U) := ⟨pi_range2 hg hm (pa_cons h.p (pa_cons h'.p pa_nil hb) ha) hs hs2, si_rng2 h.s h'.s⟩
theorem s_for (hp : PassesOwn (model X.prog X.w) X.A X.env X.xe) (hi : PDI X tg iter wi W) (hg : PDG X tg g G js) (hb : PDSs X ξ body ts Ts) (hc : X.calm = true := by rfl) (hs : ∀ x, foldedSetIterable iter X.env x = pure x := by intro _; rfl) :
    PDS X ξ (.For tg iter body [] pos) (tFor wi g ts) (dFor W G Ts) := ⟨ps_for hp hc hi.p hg.p hb.p hs, ss_for hi.s hg.s hb.s⟩
theorem s_while (hp : PassesOwn (model X.prog X.w) X.A X.env X.xe) (hc : PDT X c tt DT1) (hb : PDSs X ξ body ts Ts) : PDS X ξ (.While c body [] pos) (tWhile tt ts) (dWh DT1 Ts) := ⟨ps_while hp hc.p hb.p, ss_while hc.s hb.s⟩
structure PDTs (X : Cx) (ifs : List Expr) (t : TT) (T : DT) : Prop where
  p : PTs X ifs t
  s : ST X.K t T
theorem ts_nil : PDTs X [] tYes dYes := ⟨pts_nil, st_yes⟩
theorem ts_one (h : PDT X c tt DT1) : PDTs X [c] tt DT1 := ⟨pts_one h.p, h.s⟩
theorem PDTs.as {ifs : List Expr} {tt' : TT} (h : PDTs X ifs tt' DT1) (e : tt' = tt) : PDTs X ifs tt DT1 := e ▸ h
theorem PDE.as {elt : Expr} {t' : TE} (h : PDE X elt t' T) (e : t' = t) : PDE X elt t T := e ▸ h
theorem o_lc {elt : Expr} {ifs : List Expr} {scope : Scope} (own : List (Str × Nat)) (hN : X.N.Nodup) (hi : PDI X tg iter wi W) (ok : blkC X.N X.env.scope scope own = true)
    (hg : ∀ (s : Shared) (H : Hp) (C : Addr) (cl : List (Str × Addr)) (fp : List Addr), PDG (X.blk s H scope (compEnvC scope cl C X.env) fp) tg g G js)
    (ht : ∀ (s : Shared) (H : Hp) (C : Addr) (cl : List (Str × Addr)) (fp : List Addr), PDTs (X.blk s H scope (compEnvC scope cl C X.env) fp) ifs tt DT1)
    (he : ∀ (s : Shared) (H : Hp) (C : Addr) (cl : List (Str × Addr)) (fp : List Addr), PDE (X.blk s H scope (compEnvC scope cl C X.env) fp) elt t T)
    (hj : ∀ j ∈ js, j ∈ own.map (·.2)) (hc : X.calm = true := by rfl) (hs : ∀ x, foldedSetIterable iter X.env x = pure x := by intro _; rfl) :
    PDO X (.ListComp elt [⟨tg, iter, ifs, 0⟩] scope pos) (tLc wi g tt t (own.map (·.2))) (dLc W G DT1 T (own.map (·.2))) :=
  ⟨pe_lc hc hN hi.p (blkOk_by ok) (fun s H C cl fp => (hg s H C cl fp).p) (fun s H C cl fp => (ht s H C cl fp).p) (fun s H C cl fp => (he s H C cl fp).p) hs,
    so_lc hi.s (hg X.s_0 X.H_0 0 [] []).s (ht X.s_0 X.H_0 0 [] []).s (he X.s_0 X.H_0 0 [] []).s hj⟩
theorem s_setLc (i : Nat) {elt : Expr} {ifs : List Expr} {scope : Scope} {y : Str} {py spos : Pos} (own : List (Str × Nat)) (hN : X.N.Nodup) (hi : PDI X tg iter wi W) (ok : blkC X.N X.env.scope scope own = true)
    (hg : ∀ (s : Shared) (H : Hp) (C : Addr) (cl : List (Str × Addr)) (fp : List Addr), PDG (X.blk s H scope (compEnvC scope cl C X.env) fp) tg g G js)
    (ht : ∀ (s : Shared) (H : Hp) (C : Addr) (cl : List (Str × Addr)) (fp : List Addr), PDTs (X.blk s H scope (compEnvC scope cl C X.env) fp) ifs tt DT1)
    (he : ∀ (s : Shared) (H : Hp) (C : Addr) (cl : List (Str × Addr)) (fp : List Addr), PDE (X.blk s H scope (compEnvC scope cl C X.env) fp) elt t T)
    (hj : ∀ j ∈ js, j ∈ own.map (·.2)) (hsw : swapsWith (.ListComp elt [⟨tg, iter, ifs, 0⟩] scope pos) (some (.Name y py)) spos.line X.env = pure true)
    (hy : X.N[i]? = some y := by rfl) (hyl : X.env.scope.names.lookup y = some .local := by rfl) (hc : X.calm = true := by rfl) (hs : ∀ x, foldedSetIterable iter X.env x = pure x := by intro _; rfl) :
    PDS X ξ (.Assign [.Name y py] (.ListComp elt [⟨tg, iter, ifs, 0⟩] scope pos) spos) (tAsg (tLc wi g tt t (own.map (·.2))) (gName i)) (dSet i (dLc W G DT1 T (own.map (·.2)))) :=
  ⟨ps_setLc hc hN hy hyl hsw hi.p (blkOk_by ok) (fun s H C cl fp => (hg s H C cl fp).p) (fun s H C cl fp => (ht s H C cl fp).p) (fun s H C cl fp => (he s H C cl fp).p) hs,
    ss_set i (so_lc hi.s (hg X.s_0 X.H_0 0 [] []).s (ht X.s_0 X.H_0 0 [] []).s (he X.s_0 X.H_0 0 [] []).s hj)⟩
end
/-! ### a list or a tuple walked -/
section
variable {X : Cx} {K : PySem.W.Frag} {tg l : Expr} {tl : TE} {T : DE}
def iSeq (K : PySem.W.Frag) (tl : TE) : TI := fun σ H R => tl σ H fun x H1 => (∃ a, x = .ref a ∧ (∃ xs, SqL K H1 a xs) ∧ R (Itl K a) H1) ∨ (∃ a, x = .ref a ∧ (∃ xs, SqT K H1 a xs) ∧ R (Itt K a) H1) ∨ ∃ z, x = .str z ∧ R (Its z) H1
theorem pi_seq (hl : PE X l tl) : PI X tg l (iSeq X.K tl) := by
  refine ⟨fun pins s σ H R I h => ?_⟩
  refine thn (hl.run pins s σ H _ I h) fun v s1 ⟨x, H1, I1, r1, q1⟩ => ?_
  rcases q1 with ⟨a, e, ⟨xs, hq⟩, q⟩ | ⟨a, e, ⟨xs, hq⟩, q⟩ | ⟨z, e, q⟩
  · subst e
    cases r1
    obtain ⟨its, rv, p, hz⟩ := I1.list hq
    refine wpAny_pyIter_list p.isList ?_
    refine ⟨s1.heap.objs.size, [s1.heap.objs.size], _, _, H1, rfl, I1.kept (t' := s1.toks) fun b o e => Heap.get?_push_of_some _ e, turn_list a _, ⟨_, Heap.get?_push_size _ rfl, rfl, rfl⟩, fun b hb => ?_, q⟩
    have e : b = s1.heap.objs.size := by simpa using hb
    subst e
    exact I1.fpOk (Nat.le_refl _) (I1.hok.fresh (Nat.le_refl _))
  · subst e
    cases r1
    obtain ⟨its, rv, p, hz⟩ := I1.tuple hq
    refine wpAny_pyIter_tuple (show s1.heap.IsTuple a its.toArray from p) ?_
    refine ⟨s1.heap.objs.size, [s1.heap.objs.size], _, _, H1, rfl, I1.kept (t' := s1.toks) fun b o e => Heap.get?_push_of_some _ e, turn_tuple a _, ⟨_, Heap.get?_push_size _ rfl, rfl, rfl⟩, fun b hb => ?_, q⟩
    have e : b = s1.heap.objs.size := by simpa using hb
    subst e
    exact I1.fpOk (Nat.le_refl _) (I1.hok.fresh (Nat.le_refl _))
  · subst e
    obtain ⟨t, rfl⟩ := r1
    cases ha : z.cps.all (· < 128)
    · exact wpAny_pyIter_wide ha (pi_one (tk := s1.toks) I1 _ (turn_str _ z t "str_iterator" (.inr rfl)) ⟨_, Heap.get?_push_size _ rfl, rfl, rfl⟩ q)
    · exact wpAny_pyIter_ascii ha (pi_one (tk := s1.toks) I1 _ (turn_str _ z t "str_ascii_iterator" (.inl rfl)) ⟨_, Heap.get?_push_size _ rfl, rfl, rfl⟩ q)
def sgD (c : Nat) : D := .str ⟨#[c]⟩
theorem it_str {y0 : Yn} {Hf1 : Hp} (z : Str) : ItOk K y0 Hf1 (Its z) (z.cps.toList.map sgD) := by
  have hl : (z.cps.toList.map sgD).length = z.cps.size := by rw [List.length_map, Array.length_toList]
  refine ⟨fun i y' Hf2 aS2 Γ2 σ2 H2 A2 e2 _ hi => ?_, fun y' Hf2 aS2 Γ2 σ2 H2 A2 e2 _ => by rw [hl]; exact Nat.le_refl _⟩
  rw [hl] at hi
  refine ⟨hi, fun x H' hy => ?_⟩
  obtain ⟨rfl, c, hc, rfl⟩ := hy
  refine ⟨Hf2, A2, Same.refl _, Keep.refl _ _, sgD c, ?_, .str _⟩
  rw [List.getElem?_map, Array.getElem?_toList, hc]
  rfl
def dISq (T : DE) : DA := fun Γ Φ => T Γ fun d Γ1 => match d with
  | .lst ds => Φ ds Γ1
  | .tup ds => Φ ds Γ1
  | .scr ns => Φ (ns.map D.int) Γ1
  | .str z => Φ (z.cps.toList.map sgD) Γ1
  | _ => False
theorem si_seq {t : TE} (h : SE K t T) : SI K (iSeq K t) (dISq T) := fun y Hf aS Γ σ H Φ R A hT k =>
  h y Hf aS Γ σ H _ _ A hT fun d Γ1 v Hf1 H1 A1 e1 k1 r1 hT1 => by
    cases r1 with
    | @lst a vs ds h1 h2 => exact .inl ⟨a, rfl, ⟨vs, SqL.of (A1.co.frz _ _ h1)⟩, k ds Γ1 _ Hf1 H1 A1 e1 k1 (it_list (fun H2 e2 => SqL.of (e2 _ _ h1)) h2) hT1⟩
    | @tup a vs ds h1 h2 => exact .inr (.inl ⟨a, rfl, ⟨vs, SqT.of (A1.co.frz _ _ h1)⟩, k ds Γ1 _ Hf1 H1 A1 e1 k1 (it_tuple (fun H2 e2 => SqT.of (e2 _ _ h1)) h2) hT1⟩)
    | str z => exact .inr (.inr ⟨z, rfl, k _ Γ1 _ Hf1 H1 A1 e1 k1 (it_str z) hT1⟩)
    | @scr a ns h1 => exact .inl ⟨a, rfl, ⟨_, same_sq A1.co.frz h1⟩, k (ns.map D.int) Γ1 _ Hf1 H1 A1 e1 k1 (it_list (fun H2 e2 => same_sq e2 h1) (RepL.ints ns)) hT1⟩
    | _ => exact hT1.elim
theorem i_seq (h : PDE X l tl T) : PDI X tg l (iSeq X.K tl) (dISq T) := ⟨pi_seq h.p, si_seq h.s⟩
end
/-! ### max, min, all, any of a list -/
section
variable {K : PySem.W.Frag}
def max1D (ds : List D) (k : B → Prop) : Prop := match ds with
  | [.lst xs] => ∃ ns : List Int, xs = ns.map D.int ∧ 0 < ns.length ∧ ∀ m, m ∈ ns → (∀ y, y ∈ ns → y ≤ m) → k (.fro (.int m))
  | _ => False
def min1D (ds : List D) (k : B → Prop) : Prop := match ds with
  | [.lst xs] => ∃ ns : List Int, xs = ns.map D.int ∧ 0 < ns.length ∧ ∀ m, m ∈ ns → (∀ y, y ∈ ns → m ≤ y) → k (.fro (.int m))
  | _ => False
def sumD (ds : List D) (k : B → Prop) : Prop := match ds with
  | [.lst xs] => ∃ ns : List Int, xs = ns.map D.int ∧ k (.fro (.int ns.sum))
  | _ => False
def allD (ds : List D) (k : B → Prop) : Prop := match ds with
  | [.lst xs] => ∃ bs : List Bool, xs = bs.map D.bl ∧ k (.fro (.bl (bs.all id)))
  | _ => False
def anyD (ds : List D) (k : B → Prop) : Prop := match ds with
  | [.lst xs] => ∃ bs : List Bool, xs = bs.map D.bl ∧ k (.fro (.bl (bs.any id)))
  | _ => False
theorem RepL.bls_of {H : Hp} : ∀ {bs : List Bool} {vs : List V}, RepL K H vs (bs.map D.bl) → vs = bs.map V.bl
  | [], _, .nil => rfl
  | n :: ns, _, .cons h r => by
    cases h
    rw [RepL.bls_of r]
    rfl
theorem cl_max1 : Cl K (rMax K) max1D := by
  intro y Hf aS Γ σ H vs ds Φ Q A h ho k
  unfold max1D at ho
  split at ho
  · obtain ⟨ns, rfl, h0, ho⟩ := ho
    obtain ⟨v, rfl, g⟩ := h.one
    obtain ⟨a, us, rfl, f, r, _⟩ := g.lst A.co
    have e := RepL.ints_of r
    subst e
    exact ⟨a, ns, rfl, SqL.of f, h0, fun m h1 h2 => k (.fro (.int _)) _ Hf H A (Same.refl _) (Keep.refl _ _) (Rep.int _) trivial (ho m h1 h2)⟩
  · exact ho.elim
theorem cl_min1 : Cl K (rMin K) min1D := by
  intro y Hf aS Γ σ H vs ds Φ Q A h ho k
  unfold min1D at ho
  split at ho
  · obtain ⟨ns, rfl, h0, ho⟩ := ho
    obtain ⟨v, rfl, g⟩ := h.one
    obtain ⟨a, us, rfl, f, r, _⟩ := g.lst A.co
    have e := RepL.ints_of r
    subst e
    exact ⟨a, ns, rfl, SqL.of f, h0, fun m h1 h2 => k (.fro (.int _)) _ Hf H A (Same.refl _) (Keep.refl _ _) (Rep.int _) trivial (ho m h1 h2)⟩
  · exact ho.elim
theorem cl_sum : Cl K (rSum K) sumD := by
  intro y Hf aS Γ σ H vs ds Φ Q A h ho k
  unfold sumD at ho
  split at ho
  · obtain ⟨ns, rfl, ho⟩ := ho
    obtain ⟨v, rfl, g⟩ := h.one
    obtain ⟨a, us, rfl, f, r, _⟩ := g.lst A.co
    have e := RepL.ints_of r
    subst e
    exact ⟨a, ns, rfl, SqL.of f, k (.fro (.int _)) _ Hf H A (Same.refl _) (Keep.refl _ _) (Rep.int _) trivial ho⟩
  · exact ho.elim
theorem cl_all : Cl K (rAll K) allD := by
  intro y Hf aS Γ σ H vs ds Φ Q A h ho k
  unfold allD at ho
  split at ho
  · obtain ⟨ns, rfl, ho⟩ := ho
    obtain ⟨v, rfl, g⟩ := h.one
    obtain ⟨a, us, rfl, f, r, _⟩ := g.lst A.co
    have e := RepL.bls_of r
    subst e
    exact ⟨a, ns, rfl, SqL.of f, k (.fro (.bl _)) _ Hf H A (Same.refl _) (Keep.refl _ _) (Rep.bl _) trivial ho⟩
  · exact ho.elim
theorem cl_any : Cl K (rAny K) anyD := by
  intro y Hf aS Γ σ H vs ds Φ Q A h ho k
  unfold anyD at ho
  split at ho
  · obtain ⟨ns, rfl, ho⟩ := ho
    obtain ⟨v, rfl, g⟩ := h.one
    obtain ⟨a, us, rfl, f, r, _⟩ := g.lst A.co
    have e := RepL.bls_of r
    subst e
    exact ⟨a, ns, rfl, SqL.of f, k (.fro (.bl _)) _ Hf H A (Same.refl _) (Keep.refl _ _) (Rep.bl _) trivial ho⟩
  · exact ho.elim
end
/-- no def of the program hides a built-in that it uses -/
structure Bt (mg : Str → Option Value) : Prop where
  len_ : mg "len" = none
  int_ : mg "int" = none
  str_ : mg "str" = none
  abs_ : mg "abs" = none
  min_ : mg "min" = none
  max_ : mg "max" = none
  list_ : mg "list" = none
  tuple_ : mg "tuple" = none
  dict_ : mg "dict" = none
  bool_ : mg "bool" = none
  isinstance_ : mg "isinstance" = none
  range_ : mg "range" = none
  sorted_ : mg "sorted" = none
  enumerate_ : mg "enumerate" = none
  zip_ : mg "zip" = none
  all_ : mg "all" = none
  any_ : mg "any" = none
  sum_ : mg "sum" = none
  reversed_ : mg "reversed" = none
  set_ : mg "set" = none
/-! ### isinstance -/
def Ty.nz {mg : Str → Option Value} (Z : Bt mg) : (T : Ty) → mg T.nm = none
  | .int => Z.int_
  | .bool => Z.bool_
  | .str => Z.str_
  | .lst => Z.list_
  | .tup => Z.tuple_
  | .dic => Z.dict_
section
variable {X : Cx} {e : Expr} {es : List Expr} {t : TE} {U : DE} {pos p1 p2 p3 p4 : Pos} {k1 : Nat}
theorem pe_ty (T : Ty) (Z : Bt X.mg) (hg : Gl X (T.nm : Str)) : PE X (.Name (T.nm : Str) pos) (tC (.ty T.nm)) := by
  cases T
  · exact pe_bltn hg Z.int_ (u := .type "int") (by decide +kernel) rfl
  · exact pe_bltn hg Z.bool_ (u := .type "bool") (by decide +kernel) rfl
  · exact pe_bltn hg Z.str_ (u := .type "str") (by decide +kernel) rfl
  · exact pe_bltn hg Z.list_ (u := .type "list") (by decide +kernel) rfl
  · exact pe_bltn hg Z.tuple_ (u := .type "tuple") (by decide +kernel) rfl
  · exact pe_bltn hg Z.dict_ (u := .type "dict") (by decide +kernel) rfl
theorem o_isa (T : Ty) (Z : Bt X.mg) (h : PDQ X e t U) (hg2 : Gl X (T.nm : Str) := by rfl) (hg : Gl X "isinstance" := by rfl) (hs : starEach [e, .Name (T.nm : Str) p2] X.env = (false, eval e X.env) :: starEach [.Name (T.nm : Str) p2] X.env := by rfl)
    (hs2 : starEach [.Name (T.nm : Str) p2] X.env = (false, eval (.Name (T.nm : Str) p2) X.env) :: starEach [] X.env := by rfl) (hpl : (backTo pos (starEach [.Name (T.nm : Str) p2] X.env)).any (·.1) = false := by rfl) :
    PDO X (.Call (.Name "isinstance" p1) [e, .Name (T.nm : Str) p2] [] pos) (tCB (rIsi X.K) (tCons t (tCons (tC (.ty T.nm)) tNil))) (dIsa T U) :=
  ⟨pe_callB call_isi hg Z.isinstance_ (by decide +kernel) (pa_cons h.p (pa_cons (pe_ty T Z hg2) pa_nil hs2) hs) (by decide) (by decide) hs hpl, so_isa T h.s⟩
theorem o_isa2 (S T : Ty) (Z : Bt X.mg) (h : PDQ X e t U) (hg2 : Gl X (S.nm : Str) := by rfl) (hg3 : Gl X (T.nm : Str) := by rfl) (hg : Gl X "isinstance" := by rfl)
    (hs : starEach [e, .Tuple [.Name (S.nm : Str) p2, .Name (T.nm : Str) p3] k1 p4] X.env = (false, eval e X.env) :: starEach [.Tuple [.Name (S.nm : Str) p2, .Name (T.nm : Str) p3] k1 p4] X.env := by rfl)
    (hs2 : starEach [.Tuple [.Name (S.nm : Str) p2, .Name (T.nm : Str) p3] k1 p4] X.env = (false, eval (.Tuple [.Name (S.nm : Str) p2, .Name (T.nm : Str) p3] k1 p4) X.env) :: starEach [] X.env := by rfl)
    (hs3 : starEach [.Name (S.nm : Str) p2, .Name (T.nm : Str) p3] X.env = (false, eval (.Name (S.nm : Str) p2) X.env) :: starEach [.Name (T.nm : Str) p3] X.env := by rfl)
    (hs4 : starEach [.Name (T.nm : Str) p3] X.env = (false, eval (.Name (T.nm : Str) p3) X.env) :: starEach [] X.env := by rfl)
    (hpl : (backTo pos (starEach [.Tuple [.Name (S.nm : Str) p2, .Name (T.nm : Str) p3] k1 p4] X.env)).any (·.1) = false := by rfl) :
    PDO X (.Call (.Name "isinstance" p1) [e, .Tuple [.Name (S.nm : Str) p2, .Name (T.nm : Str) p3] k1 p4] [] pos) (tCB (rIsiT X.K) (tCons t (tCons (tTup (tCons (tC (.ty S.nm)) (tCons (tC (.ty T.nm)) tNil))) tNil))) (dIsa2 S T U) :=
  ⟨pe_callB call_isiT hg Z.isinstance_ (by decide +kernel) (pa_cons h.p (pa_cons (pe_tup (pa_cons (pe_ty S Z hg2) (pa_cons (pe_ty T Z hg3) pa_nil hs4) hs3)) pa_nil hs2) hs) (by decide) (by decide) hs hpl, so_isa2 S T h.s⟩
end
/-- the link, by its function object -/
theorem Df.mk' {K : PySem.W.Frag} {mg : Str → Option Value} {h : Heap} {x : Str} {st : Stmt} {ps : List Str} {f : Addr} {fd : FuncData} (X : K.In h) (G : h.Ns mainGlobals mg) (a : PySem.W.nsIn K mainGlobals x = some (some (.ref f))) (F : Fun K x x st f fd) (b : Binds K fd ps []) : Df K mg x st ps :=
  ⟨⟨f, fd, F, PySem.W.mg_of X G a, b⟩⟩
theorem spP_start {K : PySem.W.Frag} {m : MP} {H : Hp} {Q : VK} {E : XK} {a : Addr} {ns : List Int} (hS : SqL K H a (ns.map V.int)) (hm : ∀ κ : B → Prop, κ (.fro (.bl true)) → m [.scr ns] κ) (hq : ∀ H', Q (.bl true) H') : spP K m [.ref a] H Q E := by
  refine ⟨H, [.scr ns], Same.refl _, .cons (.scr hS) .nil, hm _ fun v H' Hf' _ hb => ?_⟩
  cases hb
  exact hq H'

end
section
/-! DL6: enumerate over a tuple, pop at a place, range downwards, a store's call that looks at a list, a def that spoils its list. -/

/-! ### enumerate over a tuple -/
theorem meets_enum_newT (l : Addr) (items : Array Value) (n : Nat) (dct : Option Addr) (sl : Array (Option Value)) :
    Meets (Builtin.«enumerate.__new__» ⟨[.type "enumerate", .ref l], []⟩) (fun _ R s => s.heap.get? l = some { cls := .type "tuple", dict := dct, data := .seq items n, slots := sl } ∧
      R (.ok (.ret (.ref (s.heap.push { cls := .type "tuple_iterator", data := .fields #[.ref l, .int 0 0] }).objs.size)))
        { s with heap := (s.heap.push { cls := .type "tuple_iterator", data := .fields #[.ref l, .int 0 0] }).push { cls := .type "enumerate", data := .fields #[.none, .bool false, .ref s.heap.objs.size, rawInt 0, .none, .none] } }) :=
  .of_wp fun prog w A R s h => by
    obtain ⟨hp, g, d, tk, os⟩ := s
    obtain ⟨hl, h⟩ := h
    have hsub := sub_enumerate
    have hL : Heap.IsTuple (Shared.heap ⟨hp, g, d, tk, os⟩) l items := ⟨_, hl, rfl, n, rfl⟩
    wp_walk using AutoSeq1.wpAny_loadPart' hl
    refine wpAny_stack_any fun st => wpAny_pure ?_
    split
    · rename_i c _ _ _ _ _
      cases (c == Value.type "enumerate")
      · wp_walk using AutoSeq1.wpAny_loadPart' hl, wpAny_pyIter_tuple hL
        exact ⟨_, rfl, h⟩
      · wp_walk using AutoSeq1.wpAny_loadPart' hl, wpAny_pyIter_tuple hL
        exact ⟨_, rfl, h⟩
    · wp_walk using AutoSeq1.wpAny_loadPart' hl, wpAny_pyIter_tuple hL
      exact ⟨_, rfl, h⟩
theorem call_enum_tuple {prog : Program} {w : World} {A : Around} {E : Value → Shared → Prop} {s : Shared} {l : Addr} {items : Array Value} {Q : Value → Shared → Prop} (hL : s.heap.IsTuple l items)
    (h : ∀ h', IsEnum h' (s.heap.objs.size + 1) s.heap.objs.size 0 .none → h'.IsTupleIter s.heap.objs.size l 0 → h'.objs.size = s.heap.objs.size + 2 →
      (∀ b o, s.heap.get? b = some o → h'.get? b = some o) → Q (.ref (s.heap.objs.size + 1)) { s with heap := h' }) :
    wpAny (model prog w) A (call (.type "enumerate") [.ref l]) Q E s := by
  obtain ⟨⟨c, dct, dt, sl⟩, hl, hc, n, hd⟩ := hL
  replace hc : c = .type "tuple" := hc
  replace hd : dt = .seq items n := hd
  subst hc hd
  refine callType_new F.called_enumerate (by decide) (F.typeCall_enumerate_1 _) (F.newCall_enumerate_1 _) (fun obj => F.args_object_init_2 obj _) F.entry_enumerate_new
    (meets_enum_newT l items n dct sl) ⟨hl, ?_⟩
  have hz : (s.heap.push { cls := .type "tuple_iterator", data := .fields #[.ref l, .int 0 0] }).objs.size = s.heap.objs.size + 1 := Heap.size_push ..
  show _ ∧ _
  rw [hz]
  have he : IsEnum ((s.heap.push { cls := .type "tuple_iterator", data := .fields #[.ref l, .int 0 0] }).push
      { cls := .type "enumerate", data := .fields #[.none, .bool false, .ref s.heap.objs.size, rawInt 0, .none, .none] }) (s.heap.objs.size + 1) s.heap.objs.size 0 .none := by
    have := Heap.get?_push_size (s.heap.push { cls := .type "tuple_iterator", data := .fields #[.ref l, .int 0 0] })
      (o := { cls := .type "enumerate", data := .fields #[.none, .bool false, .ref s.heap.objs.size, rawInt 0, .none, .none] }) rfl
    rw [hz] at this
    exact this
  exact ⟨⟨_, he, rfl⟩, h _ he ⟨_, Heap.get?_push_of_some _ (Heap.get?_push_size _ rfl), rfl, rfl⟩ (by rw [Heap.size_push, hz]) fun b o x => Heap.get?_push_of_some _ (Heap.get?_push_of_some _ x)⟩
/-- the tuple at a, each item in a new pair -/
def IteT (K : PySem.W.Frag) (a : Addr) : It :=
  ⟨fun i H => ∃ (xs : List V) (x : V), SqT K H a xs ∧ xs[i]? = some x, fun i H v H' => ∃ T x, v = .ref T ∧ H T = none ∧ H' = upd H T (.tup [.int (i : Nat), x]) ∧ ∀ xs, SqT K H a xs → xs[i]? = some x, fun i H => ∃ xs : List V, SqT K H a xs ∧ xs.length ≤ i⟩
theorem IsTup.isTuple {h : Heap} {a : Addr} {items : Array Value} (p : IsTup h a items) : h.IsTuple a items := p
theorem turn_enumT {P : Program} {w : World} {K : PySem.W.Frag} {elts : List Expr} {kk : Nat} {tpos : Pos} (a e it : Addr) (hae : a ≠ e) (hai : a ≠ it) :
    Turn P w K (.Tuple elts kk tpos) (IteT K a) [e, it] e (fun i h => (∃ old, IsEnum h e it ((i : Nat) : Int) old) ∧ h.IsTupleIter it a i ∧ e ≠ it) where
  mem := by simp
  obj := fun i h st b hb => by
    obtain ⟨⟨old, he⟩, ⟨o, ho, hc, hd⟩, _⟩ := st
    have e' : b = e ∨ b = it := by simpa using hb
    rcases e' with z | z
    · rw [z]; exact ⟨_, he, fun v q => nomatch q⟩
    · rw [z]; exact ⟨o, ho, fun v q => by rw [hd] at q; cases q⟩
  keep := fun i h h' st k => let ⟨⟨old, he⟩, ⟨o, ho, q⟩, hne⟩ := st; ⟨⟨old, k e (by simp) _ he⟩, ⟨o, k it (by simp) o ho, q⟩, hne⟩
  item := by
    intro X hP hw hK hc i pins s σ H E I hf st hg
    subst hP hw hK
    obtain ⟨⟨old, he⟩, hit, hne⟩ := st
    obtain ⟨xs, x, hq, hx⟩ := hg
    obtain ⟨its, rv, p, hz⟩ := I.tuple hq
    obtain ⟨u, hu, ru⟩ := rv.get hx
    have hel : e < s.heap.objs.size := Heap.lt_size he
    have hil : it < s.heap.objs.size := by obtain ⟨_, q, _⟩ := hit; exact Heap.lt_size q
    have hi : i < its.toArray.size := by
      rw [List.size_toArray]
      exact (List.getElem?_eq_some_iff.mp hu).1
    refine wpAny_pyNext_enum_itemD (Draws.tuple (A := X.A.in1) (by exact I.ok.hd hc) it a hai its.toArray) he ⟨hit, p⟩ hi hne (by
      intro z
      have e' : e = it ∨ e = a := by simpa using z
      rcases e' with z | z
      · exact hne z
      · exact hae z.symm) fun y h' tk hy ho hst' hT hsz hk => ?_
    have hy : its[i]? = some y := by simpa using hy
    have hyu : y = u := Option.some.inj (hy.symm.trans hu)
    subst hyu
    refine ⟨_, rfl, wpAny_letOwnedTupleGo_enum (s := { s with heap := h', toks := tk + 1 }) ho fun h'' he' sb => ?_⟩
    have hT2 : h''.get? s.heap.objs.size = some { cls := .type "tuple", data := .seq #[.int i tk, y] } := (sb.2 _ (Nat.ne_of_gt hel)).trans hT
    have new : ObjOk X.prog X.w (upd H s.heap.objs.size (.tup [.int (i : Nat), x])) h'' s.heap.objs.size (.tup [.int (i : Nat), x]) :=
      ⟨by show 2 ≤ sizeLine; decide, [.int i tk, y], .cons ⟨_, rfl⟩ (.cons ru .nil), ⟨_, hT2, rfl, _, rfl⟩⟩
    have I1 : Inv X pins σ (upd H s.heap.objs.size (.tup [.int (i : Nat), x])) { s with heap := h'', toks := tk + 1 } :=
      I.turnedNew (ch := [e, it]) (fun b ob hb q => (sb.2 b (fun z => hb (by simp [z]))).trans (hk b ob (fun z => hb (by simp [z])) (fun z => hb (by simp [z])) q)) hf (Nat.le_refl _) new
    refine ⟨.ref s.heap.objs.size, _, I1, rfl, ⟨_, x, rfl, I.hok.fresh (Nat.le_refl _), rfl, fun ys hy => by rw [I.tuple_inj hy hq]; exact hx⟩, ⟨⟨y, ?_⟩, ?_, hne⟩, fun b hb => ?_⟩
    · have e1 : ((i + 1 : Nat) : Int) = (i : Int) + 1 := by omega
      rw [e1]; exact he'
    · obtain ⟨o, q1, q2⟩ := hst'.1
      exact ⟨o, (sb.2 it (Ne.symm hne)).trans q1, q2⟩
    · have hb' : b < s.heap.objs.size := by
        have e' : b = e ∨ b = it := by simpa using hb
        rcases e' with z | z
        · rw [z]; exact hel
        · rw [z]; exact hil
      rw [upd_ne (Nat.ne_of_lt hb')]
      exact (hf b hb).1
  done := by
    intro X hP hw hK hc i pins s σ H E I hf st hg
    subst hP hw hK
    obtain ⟨⟨old, he⟩, hit, hne⟩ := st
    obtain ⟨xs, hq, hx⟩ := hg
    obtain ⟨its, rv, p, hz⟩ := I.tuple hq
    obtain ⟨f0, f1, f2, f3, f4, f5⟩ := hf it (by simp)
    have hl := rv.length
    have hT : s.TypeIs (.ref e) "enumerate" := ⟨_, he, rfl⟩
    unfold pyNext
    refine wpAny_bind (wpAny_attempt (wpAny_callSpecial?_slot (name := Str.ofString "__next__") hT F.slot_enumerate_next
      (wpAny_call_entry F.slot_enumerate_next hT F.entry_enumerate_next ?_ (F.args_enumerate_next_1 _))))
    show wpAny _ _ (field (.ref e) 2 >>= _) _ _ _
    refine wpAny_bind (wpAny_field he rfl (x := .ref it) rfl ?_)
    refine wpAny_bind (wpAny_nextOf_tuple_end (I.ok.hd hc) hit p (by rw [← Array.getElem?_toList]; exact List.getElem?_eq_none (by rw [List.toList_toArray]; omega)) fun h' y eb hy => ?_)
    obtain ⟨o, ho, hcl⟩ := hy
    refine wpAny_bind (wpAny_isInstance (T := "StopIteration") (b := true) ⟨o, ho, hcl⟩ isSubtype_stop ?_)
    exact wpAny_pure ⟨rfl, I.turned (t' := s.toks) (fun b o hb q => eb b o hb q) f0 f1 f3 f4 f5⟩
  self := fun A i s Q E st h => let ⟨⟨_, he⟩, _⟩ := st; wpAny_pyIter_enum he h
def iEnumT (K : PySem.W.Frag) (ta : TA) : TI := fun σ H R => ta σ H fun vs H1 => ∃ a xs, vs = [.ref a] ∧ SqT K H1 a xs ∧ R (IteT K a) H1
theorem pi_enumT {X : Cx} {e : Expr} {ta : TA} {p pos tpos : Pos} {elts : List Expr} {kk : Nat} (hg : Gl X "enumerate") (hm : X.mg "enumerate" = none) (ha : PA X [e] ta) (hs : starEach [e] X.env = [(false, eval e X.env)] := by rfl) :
    PI X (.Tuple elts kk tpos) (.Call (.Name "enumerate" p) [e] [] pos) (iEnumT X.K ta) := by
  refine ⟨fun pins s σ H R I h => ?_⟩
  refine Call_ (ld_blt I hg hm boot_enumerate (PyProof.Rows.callWith_type1 (thn (ha.run pos pins s σ H _ I h) fun us s1 ⟨vs, H1, I1, r1, q1⟩ => ?_) hs rfl))
  obtain ⟨a, xs, ex, hq, q⟩ := q1
  subst ex
  cases r1 with
  | cons r rr =>
    cases rr
    cases r
    obtain ⟨its, rv, p', hz⟩ := I1.tuple hq
    have hal : a < s1.heap.objs.size := by obtain ⟨_, z, _⟩ := p'; exact Heap.lt_size z
    refine call_enum_tuple p' fun h' he hit hsz hk => wpAny_pyIter_enum he ?_
    have I2 : Inv X pins σ H1 { s1 with heap := h' } := I1.kept (t' := s1.toks) hk
    refine ⟨s1.heap.objs.size + 1, [s1.heap.objs.size + 1, s1.heap.objs.size], _, _, H1, rfl, I2, turn_enumT a (s1.heap.objs.size + 1) s1.heap.objs.size (Nat.ne_of_lt (Nat.lt_succ_of_lt hal)) (Nat.ne_of_lt hal), ⟨⟨.none, he⟩, hit, Nat.succ_ne_self _⟩, fun b hb => ?_, q⟩
    have e' : b = s1.heap.objs.size + 1 ∨ b = s1.heap.objs.size := by simpa using hb
    have hle : s1.heap.objs.size ≤ b := by
      rcases e' with z | z
      · rw [z]; exact Nat.le_add_right _ _
      · rw [z]; exact Nat.le_refl _
    exact I1.fpOk hle (I1.hok.fresh hle)
/-- (0, d0), (1, d1), .. -/
def enumD (ds : List D) : List D := (List.range ds.length).map fun i => .tup [.int (i : Nat), ds.getD i .non]
def dIEn (T : DE) : DA := fun Γ Φ => T Γ fun d Γ1 => match d with
  | .tup ds => Φ (enumD ds) Γ1
  | _ => False
theorem si_enumT {K : PySem.W.Frag} {t : TE} {T : DE} (h : SE K t T) : SI K (iEnumT K (tCons t tNil)) (dIEn T) := fun y Hf aS Γ σ H Φ R A hT k =>
  h y Hf aS Γ σ H _ _ A hT fun d Γ1 v Hf1 H1 A1 e1 k1 r1 hT1 => by
    cases r1 with
    | @tup a vs ds h1 r =>
      refine ⟨a, vs, rfl, SqT.of (A1.co.frz _ _ h1), k (enumD ds) Γ1 _ Hf1 H1 A1 e1 k1 ?_ hT1⟩
      have hlen : (enumD ds).length = ds.length := by unfold enumD; rw [List.length_map, List.length_range]
      refine ⟨fun i y' Hf2 aS2 Γ2 σ2 H2 A2 e2 _ hi => ?_, fun y' Hf2 aS2 Γ2 σ2 H2 A2 e2 _ => ⟨vs, SqT.of (A2.co.frz _ _ (e2 _ _ h1)), by rw [hlen, r.len]; exact Nat.le_refl _⟩⟩
      rw [hlen] at hi
      have hq : SqT K H2 a vs := SqT.of (A2.co.frz _ _ (e2 _ _ h1))
      have hd : ds[i]? = some ds[i] := List.getElem?_eq_getElem hi
      obtain ⟨w, hw, hr⟩ := r.get hd
      refine ⟨⟨vs, w, hq, hw⟩, fun x H' hy => ?_⟩
      obtain ⟨T, z, rfl, hT0, rfl, hx⟩ := hy
      have := hx vs hq
      rw [hw] at this
      have := Option.some.inj this
      subst this
      have q := A2.layK hT0 (o := .tup [.int (i : Nat), w])
      refine ⟨_, A2.lay hT0, q.1, q.2, .tup [.int (i : Nat), ds.getD i .non], ?_, .tup upd_same (.cons (.int _) (.cons ?_ .nil))⟩
      · unfold enumD
        rw [List.getElem?_map, List.getElem?_range hi]
        rfl
      · rw [List.getD_eq_getElem?_getD, hd]
        exact (hr.mono e2).mono q.1
    | _ => exact hT1.elim
theorem i_enT {X : Cx} {a : Expr} {ta : TE} {T : DE} {elts : List Expr} {kk : Nat} {p pos tpos : Pos} (hm : X.mg "enumerate" = none) (h : PDE X a ta T) (hg : Gl X "enumerate" := by rfl) (ha : starEach [a] X.env = (false, eval a X.env) :: starEach [] X.env := by rfl)
    (hs : starEach [a] X.env = [(false, eval a X.env)] := by rfl) : PDI X (.Tuple elts kk tpos) (.Call (.Name "enumerate" p) [a] [] pos) (iEnumT X.K (tCons ta tNil)) (dIEn T) := ⟨pi_enumT hg hm (pa_cons h.p pa_nil ha) hs, si_enumT h.s⟩

/-! ### range downwards -/
section
variable {K : PySem.W.Frag} {y : Yn} {Hf Hf' : Hp} {aS : Option Addr} {Γ : Ev} {σ : L2.St} {H H' : Hp} {S : Option Sto} {v : V} {d : D} {r : B}
def rngN (lo : Int) (n : Nat) : List D := (List.range n).map fun i => .int (lo + (i : Nat) * (-1))
theorem it_rngN {y0 : Yn} (lo : Int) (n : Nat) : ItOk K y0 Hf (Itc lo (-1) n) (rngN lo n) := by
  have hl : (rngN lo n).length = n := by unfold rngN; rw [List.length_map, List.length_range]
  refine ⟨fun i y' Hf2 aS2 Γ2 σ2 H2 A2 e2 _ hi => ?_, fun y' Hf2 aS2 Γ2 σ2 H2 A2 e2 _ => by rw [hl]; exact Nat.le_refl _⟩
  rw [hl] at hi
  refine ⟨hi, fun x H' hy => ?_⟩
  obtain ⟨rfl, rfl⟩ := hy
  refine ⟨Hf2, A2, Same.refl _, Keep.refl _ _, _, ?_, .int _⟩
  unfold rngN
  rw [List.getElem?_map, List.getElem?_range hi]
  rfl
def dIR3 (T U V : DE) : DA := fun Γ Φ => T Γ fun d Γ1 => U Γ1 fun e Γ2 => V Γ2 fun f Γ3 => match d, e, f with
  | .int i, .int j, .int c => c = -1 ∧ bnd i ∧ bnd j ∧ Φ (rngN i (i - j).toNat) Γ3
  | _, _, _ => False
theorem si_rng3 {t u v : TE} {T U V : DE} (h : SQ K t T) (g : SQ K u U) (f : SQ K v V) : SI K (iRng3 (tCons t (tCons u (tCons v tNil)))) (dIR3 T U V) := fun y Hf aS Γ σ H Φ R A hT k =>
  h y Hf aS Γ σ H _ _ A hT fun d Γ1 v1 Hf1 H1 A1 e1 k1 r1 hT1 => g y Hf1 aS Γ1 σ H1 _ _ A1 hT1 fun e Γ2 w Hf2 H2 A2 e2 k2 r2 hT2 => f y Hf2 aS Γ2 σ H2 _ _ A2 hT2 fun z Γ3 w3 Hf3 H3 A3 e3 k3 r3 hT3 => by
    split at hT3
    · rename_i i j c
      have q1 := r1.int
      have q2 := r2.int
      have q3 := r3.int
      obtain ⟨rfl, b1, b2, hT3⟩ := hT3
      subst q1 q2 q3
      exact ⟨i, j, -1, _, rfl, RgC.neg b1.1 b1.2 b2.1 b2.2, k _ Γ3 _ Hf3 H3 A3 (e1.trans (e2.trans e3)) (k1.trans (k2.trans k3)) (it_rngN i (i - j).toNat) hT3⟩
    · exact hT3.elim
theorem i_r3 {X : Cx} {tg a b c : Expr} {ta tb tc : TE} {T U W : DE} {p pos : Pos} (hm : X.mg "range" = none) (h : PDQ X a ta T) (h' : PDQ X b tb U) (h'' : PDQ X c tc W) (hg : Gl X "range" := by rfl) (ha : starEach [a, b, c] X.env = (false, eval a X.env) :: starEach [b, c] X.env := by rfl)
    (hb : starEach [b, c] X.env = (false, eval b X.env) :: starEach [c] X.env := by rfl) (hc : starEach [c] X.env = (false, eval c X.env) :: starEach [] X.env := by rfl) (hpl : (backTo pos (starEach [b, c] X.env)).any (·.1) = false := by rfl) :
    PDI X tg (.Call (.Name "range" p) [a, b, c] [] pos) (iRng3 (tCons ta (tCons tb (tCons tc tNil)))) (dIR3 T U W) := ⟨pi_range3 hg hm (pa_cons h.p (pa_cons h'.p (pa_cons h''.p pa_nil hc) hb) ha) ha hpl, si_rng3 h.s h'.s h''.s⟩

/-! ### x.pop(0) -/
theorem RepL.tail {vs : List V} {ds : List D} (h : RepL K H vs ds) : RepL K H vs.tail ds.tail := by
  have := h.drop 1
  rwa [List.drop_one, List.drop_one] at this
def dPop0 (i : Nat) : DS := fun De Γ => match Γ.sl[i]? with
  | some (some (.own (.lst ds))) => ds ≠ [] ∧ De.nx (Γ.set i (.own (.lst ds.tail)))
  | _ => False
theorem ss_pop0 (i : Nat) : SS K ω (tDrop (tBM K "list" rPopAt (tVar i) (tCons (tC (.int 0)) tNil))) (dPop0 i) := by
  intro y Hf aS Γ σ H De Dn A hT L
  unfold dPop0 at hT
  split at hT
  · rename_i ds e
    obtain ⟨v, hv, a, rfl, ⟨vs, g1, g5⟩, g2, g3, g4⟩ := A.slot i _ e
    have hl := g5.len
    have hpos : 0 < vs.length := by
      rw [hl]
      exact List.length_pos_iff.mpr hT.1
    refine ⟨_, hv, .inl ⟨rfl, vs, .inl (.inl g1)⟩, a, vs, 0, 0, vs[0], rfl, rfl, g1, by decide, by decide, ?_, List.getElem?_eq_getElem hpos, ?_⟩
    · have : ixN vs.length 0 = some 0 := by
        unfold ixN
        rw [if_pos (by decide), if_pos (by omega)]
        rfl
      exact (ixN_seq this).1
    · have e1 : vs.eraseIdx 0 = vs.tail := List.eraseIdx_zero
      rw [e1]
      exact L.nx Hf aS _ σ _ (A.put (o' := .lst _) (u := .lst vs.tail) e hv ⟨_, upd_same, g5.tail⟩) hT.2
  · exact hT.elim
theorem s_pop0 {X : Cx} {pos : Pos} (i : Nat) {x : Str} {p1 p2 p3 p4 : Pos} {j : Nat} (hN : X.N[i]? = some x := by rfl) (hv : Vis X.env.scope x := by first | exact Or.inl rfl | exact Or.inr (Or.inl rfl) | exact Or.inr (Or.inr rfl)) (hd : (x == ("__debug__" : Str)) = false := by decide)
    (hcd : (x == ("__classdict__" : Str)) = false := by decide) (hbase : attributeBase (.Name x p1) "pop" X.env (eval (.Name x p1) X.env) = eval (.Name x p1) X.env := by rfl)
    (hfew : ((backTo p3 (starEach [Expr.Constant (.int 0) j p4] X.env)).all (fun x => !x.1) && (backToKw p3 (keywordEach [] X.env)).all (fun x => x.1.isSome)
      && decide ([Expr.Constant (.int 0) j p4].length + ([] : List Keyword).length + (if ([] : List Keyword).isEmpty then 0 else 1) < 30)) = true := by rfl)
    (hline : (p2.endLine == p3.line) = true := by rfl) (hs : starEach [Expr.Constant (.int 0) j p4] X.env = (false, eval (Expr.Constant (.int 0) j p4) X.env) :: starEach [] X.env := by rfl) (hsw : swapsWith (.Call (.Attribute (.Name x p1) "pop" p2) [Expr.Constant (.int 0) j p4] [] p3) none pos.line X.env = pure false := by rfl) :
    PDS X ξ (.Expr (.Call (.Attribute (.Name x p1) "pop" p2) [Expr.Constant (.int 0) j p4] [] p3) pos) (tDrop (tBM X.K "list" rPopAt (tVar i) (tCons (tC (.int 0)) tNil))) (dPop0 i) :=
  ⟨ps_expr (pe_bm PySem.F.plainAttrs_list PySem.F.slot_list_pop PySem.F.type_list_pop mt_popAt (pv i hN hv hd hcd) (pa_cons pe_int pa_nil hs) hbase hfew hline hs rfl) hsw, ss_pop0 i⟩
end

/-! ### data without lists: a def that looks at one's own list may tell of its items -/
mutual
def D.nol : D → Bool
  | .non => true
  | .bl _ => true
  | .int _ => true
  | .str _ => true
  | .tup xs => nolL xs
  | _ => false
def nolL : List D → Bool
  | [] => true
  | x :: xs => x.nol && nolL xs
end
mutual
theorem Rep.nol {K : PySem.W.Frag} {H H' : Hp} (e : ∀ a us, H a = some (.tup us) → H' a = some (.tup us)) : ∀ {v : V} {d : D}, Rep K H v d → d.nol = true → Rep K H' v d
  | _, _, .non, _ => .non
  | _, _, .bl b, _ => .bl b
  | _, _, .int i, _ => .int i
  | _, _, .str x, _ => .str x
  | _, _, .tup h r, n => .tup (e _ _ h) (RepL.nol e r (by unfold D.nol at n; exact n))
  | _, _, .lst _ _, n => by unfold D.nol at n; cases n
  | _, _, .dic _ _, n => by unfold D.nol at n; cases n
  | _, _, .ins _ _ _, n => by unfold D.nol at n; cases n
  | _, _, .ptr, n => by unfold D.nol at n; cases n
  | _, _, .scr _, n => by unfold D.nol at n; cases n
  | _, _, .exc0, n => by unfold D.nol at n; cases n
  | _, _, .exc1 _ _, n => by unfold D.nol at n; cases n
theorem RepL.nol {K : PySem.W.Frag} {H H' : Hp} (e : ∀ a us, H a = some (.tup us) → H' a = some (.tup us)) : ∀ {v : List V} {d : List D}, RepL K H v d → nolL d = true → RepL K H' v d
  | _, _, .nil, _ => .nil
  | _, _, .cons h r, n => by
    unfold nolL at n
    rw [Bool.and_eq_true] at n
    exact .cons (Rep.nol e h n.1) (RepL.nol e r n.2)
end
def D.nint : D → Bool
  | .int _ => false
  | _ => true
theorem ints_nint {K : PySem.W.Frag} {H : Hp} : ∀ {ns : List Int} {ds : List D}, RepL K H (ns.map V.int) ds → ds.any D.nint = false
  | [], _, h => by
    cases h
    rfl
  | n :: ns, _, .cons h r => by
    cases h
    rw [List.any_cons, ints_nint r]
    rfl
section
variable {K : PySem.W.Frag} {y : Yn} {Hf Hf' : Hp} {aS : Option Addr} {Γ : Ev} {σ : L2.St} {H H' : Hp} {S : Option Sto} {v : V} {d : D} {r : B}
def nolS (Φ : D → Sto → Prop) : B → Sto → Prop
  | .fro d, S' => d.nol = true ∧ Φ d S'
  | _, _ => False
/-- f(store, x), x one's own list that f but looks at -/
def dCallSP (m : MS) (i j : Nat) : DO := fun Γ Φ => match Γ.sl[i]?, Γ.sl[j]?, Γ.S with
  | some (some .sto), some (some (.own (.lst ds))), some S => ds.any D.nint = true ∧ m [.lst ds] S (nolS fun d S' => Φ (.fro d) (Γ.w Γ.sl (some S')))
  | _, _, _ => False
theorem so_callSP {m : MS} (i j : Nat) {E : XK} (mono : ∀ ds S k k', (∀ b S, k b S → k' b S) → m ds S k → m ds S k') : SO K (tCall (spS K m) [] E (tCons (tVar i) (tCons (tVar j) tNil))) (dCallSP m i j) := by
  intro y Hf aS Γ σ H Φ Q A hT k
  unfold dCallSP at hT
  split at hT
  · rename_i ds S e1 e2 e3
    obtain ⟨v, hv, a, rfl, ha⟩ := A.slot i _ e1
    obtain ⟨u, hu, p, rfl, ⟨vs, h1, h2⟩, h3, h4, h5⟩ := A.slot j _ e2
    subst ha
    have c := A.co
    have z := c.sto
    rw [e3] at z
    have hap : a ≠ p := fun e => h5 (by rw [e])
    have hSc : Same Hf (upd Hf p (.lst vs)) := fun b o e => by rw [upd_ne (ne_of_none e h3)]; exact e
    refine ⟨.ref a, hv, .ref p, hu, a, upd Hf p (.lst vs), [.lst ds], S, [.ref p], rfl, fun b o e => ?_, ?_, by rw [upd_ne hap]; exact z.2, .cons (.lst upd_same (h2.mono hSc)) .nil, mono _ _ _ _ (fun b S' hb w H' Hf' c' b' => ?_) hT.2⟩
    · by_cases hb : b = p
      · subst hb; rw [upd_same] at e; rw [h1]; exact e
      · rw [upd_ne hb] at e; exact c.frz b o e
    · obtain ⟨⟨cc, s1, s2⟩, _⟩ := z
      exact ⟨cc, s1, hSc _ _ s2⟩
    cases b with
    | own o => exact hb.elim
    | sto => exact hb.elim
    | lk d => exact hb.elim
    | fro d =>
      obtain ⟨⟨cc, s1, s2⟩, s3⟩ := c'.sto
      have hfp : Hf' p = some (.lst vs) := c'.mon p _ upd_same
      have hcp : cc ≠ p := fun e => by
        subst e
        rw [s2] at hfp
        have hvs : S'.cells.map V.int = vs := by injection hfp with q; injection q
        have := ints_nint (hvs ▸ h2)
        rw [hT.1] at this
        cases this
      obtain ⟨Hn, hHn⟩ : ∃ Hn : Hp, ∀ b, Hn b = if b = cc then Hf' b else (match Hf' b with | some (.tup us) => some (.tup us) | _ => Hf b) := ⟨_, fun _ => rfl⟩
      have mon : Same Hf Hn := fun b o e => by
        have e' : Hf' b = some o := c'.mon b o (hSc b o e)
        rw [hHn]
        split
        · exact e'
        · rw [e']
          cases o <;> first | rfl | exact e
      have sub : Same Hn Hf' := fun b o e => by
        rw [hHn] at e
        split at e
        · exact e
        · split at e
          · rename_i us q
            rw [q]; exact e
          · exact c'.mon b o (hSc b o e)
      have tups : ∀ b us, Hf' b = some (.tup us) → Hn b = some (.tup us) := fun b us e => by
        rw [hHn]
        split
        · exact e
        · rw [e]
      have hna : Hn a = none := by
        rw [hHn, if_neg (fun e => by rw [e] at s3; rw [s2] at s3; cases s3), s3]
        exact z.2
      have c2 : Co ⟨H, Hf, some a⟩ Hn (some a) (some S') H' := by
        refine ⟨c'.kept, fun b o e => c'.frz b o (sub b o e), mon, fun b o e => ?_, ⟨⟨cc, s1, by rw [hHn, if_pos rfl]; exact s2⟩, hna⟩, .inr rfl, fun b _ n => nomatch n⟩
        by_cases hbp : b = p
        · subst hbp
          rw [hHn, if_neg (fun e => hcp e.symm), hfp] at e
          rw [h3] at e
          cases e
        · rcases c'.new b o (sub b o e) with ⟨u, hu⟩ | hz
          · have hu : upd Hf p (.lst vs) b = some u := hu
            rw [upd_ne hbp] at hu
            exact .inl ⟨u, hu⟩
          · exact .inr hz
      exact k (.fro d) _ w Hn H' (A.behind c2) mon c2.keep (Rep.nol tups b' hb.1) trivial hb.2
  · exact hT.elim
theorem o_callSP {X : Cx} {j k : Nat} {m : MS} (i i2 : Nat) {x z z2 : Str} {p pz pz2 pos : Pos} (F : Fs X.prog X.w X.K X.mg X.base j x m) (hr : Room k X.A) (hj : j ≤ k) (hN : X.N[i]? = some z := by rfl) (hv : Vis X.env.scope z := by first | exact Or.inl rfl | exact Or.inr (Or.inl rfl) | exact Or.inr (Or.inr rfl)) (hd : (z == ("__debug__" : Str)) = false := by decide)
    (hcd : (z == ("__classdict__" : Str)) = false := by decide) (hN2 : X.N[i2]? = some z2 := by rfl) (hv2 : Vis X.env.scope z2 := by first | exact Or.inl rfl | exact Or.inr (Or.inl rfl) | exact Or.inr (Or.inr rfl)) (hd2 : (z2 == ("__debug__" : Str)) = false := by decide)
    (hcd2 : (z2 == ("__classdict__" : Str)) = false := by decide) (hg : Gl X x := by rfl) (hdb : (x == ("__debug__" : Str)) = false := by decide)
    (he2 : starEach [Expr.Name z2 pz2] X.env = (false, eval (.Name z2 pz2) X.env) :: starEach [] X.env := by rfl)
    (he : starEach [Expr.Name z pz, Expr.Name z2 pz2] X.env = (false, eval (.Name z pz) X.env) :: starEach [.Name z2 pz2] X.env := by rfl) (hpl : (backTo pos (starEach [Expr.Name z2 pz2] X.env)).any (·.1) = false := by rfl) :
    PDO X (.Call (.Name x p) [.Name z pz, .Name z2 pz2] [] pos) (tCall (spS X.K m) [] E0 (tCons (tVar i) (tCons (tVar i2) tNil))) (dCallSP m i i2) := by
  obtain ⟨f, fd, ps, G, g, kp, b⟩ := F.ex
  exact ⟨pe_call G (hr.mono hj) hg g kp b .nil pass0 (pa_cons (pv i hN hv hd hcd) (pa_cons (pv i2 hN2 hv2 hd2 hcd2) pa_nil he2) he) hdb he hpl, so_callSP i i2 F.mono⟩

/-! ### a def that spoils its list -/
def spW (K : PySem.W.Frag) (pre : List D → Prop) : Sp := fun vs H Q _ => ∃ p Hf ds us, vs = [.ref p] ∧ Same Hf H ∧ Hf p = none ∧ H p = some (.lst us) ∧ RepL K Hf us ds ∧ pre ds ∧
  ∀ H' Hf', Co ⟨fun b => if b = p then none else H b, Hf, none⟩ Hf' none none H' → Q .non H'
structure Fw (P : Program) (w : World) (K : PySem.W.Frag) (mg : Str → Option Value) (base : Heap) (k : Nat) (x : Str) (pre : List D → Prop) : Prop where
  ex : ∃ f fd ps, FnOk P w K mg base CX0 k f fd ps (spW K pre) ∧ mg x = some (.ref f) ∧ PySem.W.keepIn K (.ref f) = true ∧ Binds K fd ps []
theorem okW {P : Program} {w : World} {mg : Str → Option Value} {base : Heap} {x x0 : Str} {st : Stmt} {N : List Str} {k : Nat} {pre : List D → Prop} (F : Df K mg x st [x0]) (S : FnScope (x0 :: N) [x0] (defScope st))
    (hb : ∀ (f : Addr) (cdv : Value) (A : Around) (outer : List Env) (s : Shared) (H : Hp) (E : XK), Room k (A.deeper (envOfC x (defScope st) s.heap.objs.size f cdv)) →
      ∃ t T, PDSs (cxOf CX0 P w K mg base (x0 :: N) x (defScope st) f cdv A outer s H E).nox W0 (defBody st) t T ∧
        ∀ ds, pre ds → T ⟨fun _ => True, fun _ _ => False, fun _ => False, fun _ => False, fun _ _ => False⟩ ⟨some (.own (.lst ds)) :: List.replicate N.length none, none⟩) :
    Fw P w K mg base (k + 1) x pre := by
  obtain ⟨f, fd, FF, g, b⟩ := F.ex
  refine ⟨f, fd, [x0], FF.ok S (fun vs H Q E h => ?_) (fun cdv A outer s H vs Q E hr h => ?_), g, FF.kp, b⟩
  · obtain ⟨p, Hf, ds, us, rfl, _⟩ := h
    rfl
  · obtain ⟨p, Hf, ds, us, rfl, e, h1, h2, h3, hp, hq⟩ := h
    obtain ⟨t, T, pd, q⟩ := hb f cdv A outer s H E hr
    have hst : start (x0 :: N) [V.ref p] = some (V.ref p) :: List.replicate N.length none := by
      unfold L2.start
      rw [List.length_cons, List.length_cons, List.length_nil]
      rfl
    refine ⟨t, pd.p, pd.s ⟨fun b => if b = p then none else H b, Hf, none⟩ Hf none ⟨some (.own (.lst ds)) :: List.replicate N.length none, none⟩ (start (x0 :: N) [V.ref p]) H _ _ ?_ (q ds hp) ⟨fun Hf' aS Γ σ H' A' z => ?_, fun Hf' aS S' H' v r' c b' z => z.elim, fun _ _ _ _ _ _ z => z.elim, fun _ _ _ _ _ _ z => z.elim, fun _ _ _ _ _ _ _ _ _ _ _ z => z.elim⟩⟩
    · rw [hst]
      refine At.mk2 (Γ := ⟨some (.own (.lst ds)) :: List.replicate N.length none, none⟩) ?_ ⟨fun a o h _ => ?_, e, Same.refl _, fun a o h => .inl ⟨o, h⟩, trivial, .inl rfl, fun a e => nomatch e⟩ (fun i b h => ?_) (fun i j a oi oj g1 g2 _ _ => ?_) rfl
      rotate_left
      · have h : (if a = p then none else H a) = some o := h
        split at h
        · cases h
        · exact h
      · cases i with
        | zero =>
          have h := Option.some.inj (Option.some.inj h)
          subst h
          exact ⟨.ref p, rfl, p, rfl, ⟨us, h2, h3⟩, h1, if_pos rfl, fun e => nomatch e⟩
        | succ i =>
          have h : (List.replicate N.length (none : Option B))[i]? = some (some b) := h
          rw [List.getElem?_replicate] at h
          split at h <;> cases h
      · have one : ∀ {i : Nat} {o : O}, (some (B.own (.lst ds)) :: List.replicate N.length none)[i]? = some (some (B.own o)) → i = 0 := fun {i o} h => by
          cases i with
          | zero => rfl
          | succ i =>
            have h : (List.replicate N.length (none : Option B))[i]? = some (some _) := h
            rw [List.getElem?_replicate] at h
            split at h <;> cases h
        rw [one g1, one g2]
      · show (_ :: _ : List _).length = (_ :: _ : List _).length
        rw [List.length_cons, List.length_cons, List.length_replicate, List.length_replicate]
    · exact hq H' Hf' (A'.co.noS rfl)
/-- f(x), x one's own list: nothing is known of it any more -/
def dSpoil (pre : List D → Prop) (i : Nat) : DS := fun De Γ => match Γ.sl[i]? with
  | some (some (.own (.lst ds))) => pre ds ∧ De.nx (Γ.drop i)
  | _ => False
theorem ss_spoil {pre : List D → Prop} (i : Nat) {E : XK} : SS K ω (tDrop (tCall (spW K pre) [] E (tCons (tVar i) tNil))) (dSpoil pre i) := by
  intro y Hf aS Γ σ H De Dn A hT L
  unfold dSpoil at hT
  split at hT
  · rename_i ds e
    obtain ⟨v, hv, p, rfl, ⟨vs, h1, h2⟩, h3, h4, h5⟩ := A.slot i _ e
    refine ⟨.ref p, hv, p, Hf, ds, vs, rfl, A.co.frz, h3, h1, h2, hT.1, fun H' Hf' c' => ?_⟩
    have A1 := A.drop i
    have c := A1.co
    have A2 : At K y Hf aS (Γ.drop i) σ (fun b => if b = p then none else H b) := by
      have up : ∀ {b : Addr} {o : HO}, H b = some o → b ≠ p → (if b = p then none else H b) = some o := fun {b o} h n => by rw [if_neg n]; exact h
      refine ⟨⟨fun b o h n => up (c.kept b o h n) (ne_of_none h h4), fun b o h => up (c.frz b o h) (ne_of_none h h3), c.mon, c.new, ?_, c.st0, c.s00⟩, ⟨A1.sl.len, fun j b h => ?_, A1.sl.sep⟩⟩
      · have q := c.sto
        revert q
        cases aS with
        | none => cases (Γ.drop i).S <;> exact id
        | some a =>
          cases (Γ.drop i).S with
          | none => exact id
          | some S =>
            rintro ⟨⟨cc, z1, z2⟩, z3⟩
            exact ⟨⟨cc, up z1 (fun e => h5 (by rw [e])), z2⟩, z3⟩
      · obtain ⟨u, hu, hb⟩ := A1.sl.slot j b h
        refine ⟨u, hu, ?_⟩
        cases b with
        | fro d => exact hb
        | sto => exact hb
        | lk d => exact hb
        | own o =>
          obtain ⟨q, rfl, g1, g2, g3, g4⟩ := hb
          have hqp : q ≠ p := fun z => by
            subst z
            exact A.apart_drop e hv j o h hu
          refine ⟨q, rfl, ?_, g2, g3, g4⟩
          cases o with
          | lst xs =>
            obtain ⟨us, f1, f2⟩ := g1
            exact ⟨us, up f1 hqp, f2⟩
          | dic xs =>
            obtain ⟨us, f1, f2⟩ := g1
            exact ⟨us, up f1 hqp, f2⟩
          | ins c fs =>
            obtain ⟨C, dx, us, f0, f1, f2⟩ := g1
            exact ⟨C, dx, us, f0, up f1 hqp, f2⟩
    exact L.nx Hf' aS (Γ.drop i) σ H' (A2.behind (A2.co.put c')) hT.2
  · exact hT.elim
theorem s_spoil {X : Cx} {j k : Nat} {pre : List D → Prop} (i : Nat) {x z : Str} {p pz pos pos2 : Pos} (F : Fw X.prog X.w X.K X.mg X.base j x pre) (hr : Room k X.A) (hj : j ≤ k) (hN : X.N[i]? = some z := by rfl) (hv : Vis X.env.scope z := by first | exact Or.inl rfl | exact Or.inr (Or.inl rfl) | exact Or.inr (Or.inr rfl)) (hd : (z == ("__debug__" : Str)) = false := by decide)
    (hcd : (z == ("__classdict__" : Str)) = false := by decide) (hg : Gl X x := by rfl) (hdb : (x == ("__debug__" : Str)) = false := by decide)
    (he : starEach [Expr.Name z pz] X.env = (false, eval (.Name z pz) X.env) :: starEach [] X.env := by rfl) (hpl : (backTo pos (starEach ([] : List Expr) X.env)).any (·.1) = false := by rfl)
    (hs : swapsWith (.Call (.Name x p) [.Name z pz] [] pos) none pos2.line X.env = pure false := by rfl) :
    PDS X ξ (.Expr (.Call (.Name x p) [.Name z pz] [] pos) pos2) (tDrop (tCall (spW X.K pre) [] E0 (tCons (tVar i) tNil))) (dSpoil pre i) := by
  obtain ⟨f, fd, ps, G, g, kp, b⟩ := F.ex
  exact ⟨ps_expr (pe_call G (hr.mono hj) hg g kp b .nil pass0 (pa_cons (pv i hN hv hd hcd) pa_nil he) hdb he hpl) hs, ss_spoil i⟩
end

end
section
/-! EX0: an own __init__ whose first statement is super().__init__(x); exceptions made so; the handled exception asked. -/
open PySem PySem.Spec PyProof.Rows L2 NdefX

/-! ### a method with __class__ in a cell of the written part -/
/-- what the written part says of such a method -/
structure IniK (P : Program) (K : PySem.W.Frag) (mg : Str → Option Value) (f D : Addr) (F : NF) (ps : List Str) : Prop where
  lk : ∃ oc od osl doc pm an dV kV ctv, K.lookup f = some ⟨oc, od, .func (PySem.W.fnX F.name F.qual F.params F.body F.scope F.cl dV kV doc pm an (.ref F.c) ctv), osl⟩
  cd : PySem.W.codeIn K (.ref F.c) F.qual = true
  cl : ∃ cc ccl cld csl, F.cl = [(("__class__" : Str), cc)] ∧ K.lookup cc = some ⟨ccl, cld, .cell (some (.ref D)), csl⟩
  co : ∃ ccl cdd vs ccs file tf, K.lookup F.c = some ⟨ccl, cdd, .fields vs, ccs⟩ ∧ vs[2]? = some (.str file tf) ∧ ((P.main.file : Str) == file) = true
  hd : ∃ ar, (F.params.posonlyargs ++ F.params.args).head? = some ar ∧ ps[0]? = some ar.arg ∧ F.scope.names.lookup ar.arg = some .local
  su : mg "super" = none
  top : (P.main.scope.names.lookup ("super" : Str)).isSome = false
  ks : F.scope.names.lookup ("super" : Str) = some .globalImplicit
  isD : (PySem.W.clsIn K D).isSome = true
  sub : PySem.W.mroIn K D (.ref D) = some true
  fnd : PySem.W.ks_superIn K D D "__init__" = some (some (.builtin "ValueError.__init__"))
  ve : PySem.W.subIn K (.ref D) (.type "ValueError") = some true
  opq : PySem.W.nsIn K cStatics "thirdparty.any" = some none
section
variable {CX : CXT} {P : Program} {w : World} {K : PySem.W.Frag} {mg : Str → Option Value} {base : Heap} {N ps : List Str} {F : NF} {f D : Addr} {k : Nat} {sp : Sp}
theorem ini_cells {s : Shared} {H : Hp} {A : Around} {outer : List Env} (T : IniK P K mg f D F ps) (e0 : Env0 P w K mg base A outer s H) : CellsAt F.cl ["__class__"] [some (.ref D)] s.heap H := by
  obtain ⟨cc, ccl, cld, csl, hcl, hcc⟩ := T.cl
  have hb := e0.mod.kin _ _ hcc
  have hs := e0.bs _ _ hb
  have one : ∀ {y : Str} {c : Addr}, F.cl.lookup y = some c → y = "__class__" ∧ c = cc := fun {y c} e => by
    rw [hcl] at e
    unfold List.lookup at e
    split at e
    · rename_i h
      exact ⟨by simpa using h, (Option.some.inj e).symm⟩
    · cases e
  refine ⟨rfl, fun y c e => ?_, fun x y c h1 h2 => (one h1).1.trans (one h2).1.symm, fun i y hi => ?_⟩
  · obtain ⟨_, rfl⟩ := one e
    exact ⟨hs.2, _, _, hs.1, rfl⟩
  · cases i with
    | zero =>
      have hy : ("__class__" : Str) = y := Option.some.inj hi
      subst hy
      refine ⟨cc, by rw [hcl]; simp [List.lookup], fun v hv => ?_⟩
      have hv := Option.some.inj (Option.some.inj hv)
      subst hv
      exact ⟨.ref D, rfl, _, hs.1, rfl⟩
    | succ i => cases hi
/-- super().__init__(..) of an exception that is being made: the wrapper called -/
theorem call_veB {prog : Program} {hp : Heap} {A : Around} {E : Value → Shared → Prop} {g : Array GenState} {d : Drawn} {t : Nat} {os : OsState} {C u e t0 : Addr} {rest : List Value} {Q : Value → Shared → Prop} {nm q : Str} {N : Addr} {bs bm : List Value} {hdct : Bool} {sn : List Str} {sub : List Value} {ab : Bool} {col : Option Bool} {dd : Option Addr} {k0 k1 k2 k3 k5 : Option Value}
    (hC : hp.get? C = some (excClassObj nm q C N bs bm hdct sn sub ab col dd k0 k1 k2 k3 k5 "ValueError.__new__")) (he : hp.get? e = some (PySem.HandSPX.excO C t0)) (hu : hp.get? u = some (PySem.W.kxs_mw "ValueError.__init__" e)) (hz : rest.length ≤ sizeLine)
    (hq : ∀ h' t1, (∀ b o, b ≠ e → hp.get? b = some o → h'.get? b = some o) → h'.get? e = some (PySem.HandSPX.excO C t1) → Q .none ⟨h', g, d, t, os⟩) : wpAny (model prog w) A (call (.ref u) rest) Q E ⟨hp, g, d, t, os⟩ := by
  have FV := F.excBase_ValueError
  refine wpAny_call (codeAny_of_tree (show wpAny _ A.in1 (callAny (.ref u) ⟨rest, []⟩) _ _ _ from ?_))
  simp only [callAny]
  refine wpAny_bind (wpAny_load hu ?_)
  have b1 : (Value.type "method-wrapper" == Value.type "method" || Value.type "method-wrapper" == Value.type "builtin_function_or_method" || Value.type "method-wrapper" == Value.type "method-wrapper") = true := by decide
  simp only [PySem.W.kxs_mw, b1, if_true]
  refine PySem.W.KFB.if_so (by decide) (wpAny_bind (PySem.W.check_bound_init FV.toExcCallFacts hC he rfl (wpAny_bind (wpAny_pure (wpAny_pure ?_)))))
  refine ⟨plainId_quiet FV.init.plain _, codeAny_builtin FV.initEntry (PySem.W.exc_init_tree (cls := .ref C) (t0 := t0) (dv := none) (c2 := .none) (c3 := .none) (b4 := .bool false) he hz fun h' k e' _ => ?_)⟩
  exact hq h' _ k e'
/-- THE RULE -/
theorem fn_ini {arg : Expr} {rest : List Stmt} {p0 p1 p2 p3 pos : Pos} (T : IniK P K mg f D F ps) (S : NScope N ps ["__class__"] F.scope) (hbody : F.body = .Expr (.Call (.Attribute (.Call (.Name "super" p0) [] [] p1) "__init__" p2) [arg] [] p3) pos :: rest)
    (X0 : OexC K D) (len : ∀ vs H Q E, sp vs H Q E → vs.length = ps.length) (hps : 0 < ps.length)
    (hev : ∀ L, ∃ pl, eval (.Call (.Attribute (.Call (.Name "super" p0) [] [] p1) "__init__" p2) [arg] [] p3) (envF F f L) = (do
      let ov ← attributeBase (.Call (.Name "super" p0) [] [] p1) "__init__" (envF F f L) (eval (.Call (.Name "super" p0) [] [] p1) (envF F f L))
      standAt p2.atName
      let (fx, first) ← holding [ov] (getMethod ov "__init__" pl)
      callWith p3 fx first (backTo p3 (starEach [arg] (envF F f L))) []))
    (hsw : ∀ L, swapsWith (.Call (.Attribute (.Call (.Name "super" p0) [] [] p1) "__init__" p2) [arg] [] p3) none pos.line (envF F f L) = pure false)
    (hst : ∀ L, starEach [arg] (envF F f L) = (false, eval arg (envF F f L)) :: starEach [] (envF F f L))
    (hb : ∀ (A : Around) (outer : List Env) (s : Shared) (H : Hp) (vs : List V) (Q : VK) (E : XK), Room k (A.deeper (envF F f s.heap.objs.size)) → sp vs H Q E →
      ∃ a us ta tr, vs = .ref a :: us ∧ H a = some (exo a D none) ∧ PA (ncx CX P w K mg base N F f A outer s H E) [arg] ta ∧ PSs (ncx CX P w K mg base N F f A outer s H E) rest tr ∧
        ta (startF N vs [some (.ref D)]) H (fun ws H1 => ws.length ≤ 1000 ∧ H1 a = some (exo a D none) ∧ tr { nx := fun _ H' => Q .non H', rt := Q } (startF N vs [some (.ref D)]) H1)) :
    ∃ fd, FnOk P w K mg base CX (k + 1) f fd ps sp ∧ ∃ oc od osl doc pm an dV kV ctv, fd = PySem.W.fnX F.name F.qual F.params F.body F.scope F.cl dV kV doc pm an (.ref F.c) ctv ∧ K.lookup f = some ⟨oc, od, .func fd, osl⟩ := by
  obtain ⟨oc, od, osl, doc, pm, an, dV, kV, ctv, lk⟩ := T.lk
  refine ⟨_, ⟨len, fun A outer s H args us vs Q E hr e0 hbind r hsp => ?_⟩, oc, od, osl, doc, pm, an, dV, kV, ctv, rfl, lk⟩
  have KX : K.In s.heap := e0.mod.kin.keeps fun b o e => (e0.bs b o e).1
  have hl := len _ _ _ _ hsp
  have lim : s.heap.NoLimit := e0.mod.nolimit.keeps fun b o e => (e0.bs b o e).1
  have CC := ini_cells T e0
  obtain ⟨cc, ccl, cld, csl, hcl, hcc⟩ := T.cl
  obtain ⟨ccl2, cdd, cvs, ccs, file, tf, hco, hv2, hfile⟩ := T.co
  obtain ⟨ar, har, har0, harl⟩ := T.hd
  refine codeAny_call_function hr.depth (KX _ _ lk) rfl S.co S.gen rfl (PySem.W.codeRec_of KX T.cd) (hbind _ _ _ _ ?_)
  refine wpAny_newFunctionEnv S.nocell (fun ⟨n, _⟩ hy => S.par n (List.of_mem_zip hy).1) (fun h₁ hns hsb => ⟨lim.fresh _ hsb, ?_⟩) S.kind
  show codeAny _ _ (.func F.body (envF F f s.heap.objs.size)) _ _
  have kp : ∀ b o, s.heap.get? b = some o → h₁.get? b = some o := fun b o e => hsb.extBut b o (Nat.ne_of_lt (Heap.lt_size e)) (Heap.get?_push_of_some _ e)
  obtain ⟨a, us', ta, tr, rfl, ea, hta, htr, hq⟩ := hb A outer s H vs Q E (hr.deeper _) hsp
  have I : Inv (ncx CX P w K mg base N F f A outer s H E) [] (startF N (.ref a :: us') [some (.ref D)]) H { s with heap := h₁, toks := s.toks + (ps.zip us).length } := inv_startN S hr.hd e0 hl r CC hns kp
  refine ks_codeAny_funcAt ?_
  rw [hbody]
  -- the rest
  have fin : ∀ {s1 : Shared} {H1 : Hp}, Inv (ncx CX P w K mg base N F f A outer s H E) [] (startF N (.ref a :: us') [some (.ref D)]) H1 s1 → tr { nx := fun _ H' => Q .non H', rt := Q } (startF N (.ref a :: us') [some (.ref D)]) H1 →
      wpAny (model P w) (A.deeper (envF F f s.heap.objs.size)) (execs rest (envF F f s.heap.objs.size)) (fun fl s' => CR CX outer P w H s Q E (.ok (.ret (match fl with | .ret v => v | _ => .none))) s') (fun e s' => wpAny (model P w) (A.deeper (envF F f s.heap.objs.size)) (leaving (envF F f s.heap.objs.size) e) (fun _ s'' => CR CX outer P w H s Q E (.error e) s'') (fun e' s'' => CR CX outer P w H s Q E (.error e') s'') s') s1 := fun {s1 H1} I1 q1 => by
    have fin : ∀ {σ' : L2.St} {H' : Hp} {v : V} {u : Value} {s' : Shared}, Inv (ncx CX P w K mg base N F f A outer s H E) [] σ' H' s' → L2.RelV v u → Q v H' → CE outer P w H s Q u s' := fun {σ' H' v u s'} J rv q => ⟨v, H', J.os, J.bare, J.base, J.hok, rv, q⟩
    refine wpAny_mono (htr.run [] s1 _ H1 _ I1 q1) (fun fl s' hs => ?_) fun e s' hs => hs
    cases fl with
    | ret u => obtain ⟨v, σ', H', J, rv, q⟩ := hs; exact fin J rv q
    | next => obtain ⟨σ', H', J, q⟩ := hs; exact fin (v := V.non) (u := Value.none) J rfl q
    | brk => obtain ⟨_, _, _, q⟩ := hs; exact False.elim q
    | cont => obtain ⟨_, _, _, q⟩ := hs; exact False.elim q
  obtain ⟨pl, hpl⟩ := hev s.heap.objs.size
  refine ks_wpAt_execs_cons (ks_wpAt_Expr_any (ks_wpAt_MethodCall (pl := pl) ?_ hpl) I.quiet (hsw _))
  obtain ⟨nm, q, NN, bs, bm, sn, sub, ab, col, dd, k0, k1, k2, k3, k5, hC, hbm⟩ := X0.cls
  have KI := I.kIn
  obtain ⟨t1, ho⟩ := exo_at I.hok ea
  -- the object's class
  have hcls : PySem.W.clsIn K D = some { name := nm, bases := bs, mro := .ref D :: bm, ns := NN, qualname := q, hasDict := true, slotNames := sn, subclasses := sub, abstract := ab, collection := col, hasDel := false } := by unfold PySem.W.clsIn; rw [hC] <;> rfl
  obtain ⟨m, hnm, hlk⟩ := I.loc
  obtain ⟨mb, hb1, hb2⟩ := I.mod.blt
  have hN0 : N[0]? = some ar.arg := by
    have h0 := S.pre
    have : (N.take (ps.length + 1))[0]? = (ps ++ [("__class__" : Str)])[0]? := congrArg (·[0]?) h0
    rw [List.getElem?_take_of_lt (by omega), List.getElem?_append_left hps, har0] at this
    exact this
  obtain ⟨u0, ru0, l0⟩ := hlk 0 ar.arg (.ref a) hN0 rfl (.inl harl)
  obtain rfl : u0 = Value.ref a := ru0
  have hm0 : m ar.arg = some (.ref a) := by
    rcases l0 with ⟨_, h⟩ | ⟨h, _⟩
    · exact h
    · have h : F.scope.names.lookup ar.arg = some .cell ∨ F.scope.names.lookup ar.arg = some .free := h
      rw [harl] at h
      rcases h with h | h <;> cases h
  have hfr : F.scope.names.lookup ("__class__" : Str) = some .free := S.frk _ (List.mem_singleton.mpr rfl)
  refine ks_wpAt_super_base (env := envF F f s.heap.objs.size) T.ks hfr (by decide) rfl (KI _ _ lk) rfl har rfl (KI _ _ hco) rfl hv2 hfile T.top ?_
  refine PySem.W.ks_loadName_global S.kind T.ks (Calls.loadGlobal_builtin (env := envF F f s.heap.objs.size) (I.mod.glob.keeps I.bk) T.su (hb1.keeps I.bk) ((hb2 "super" (by decide)).trans (by decide +kernel)) ⟨rfl, ?_⟩)
  refine wpAny_loadName_free S.kind hfr (by show F.cl.lookup _ = some cc; rw [hcl]; simp [List.lookup]) ⟨_, KI _ _ hcc, rfl⟩ ?_
  refine wpAny_loadName_local S.kind harl hnm hm0 ?_
  refine ks_wpAny_isType_cls (KI _ _ hC) rfl ⟨rfl, ?_⟩
  refine ks_wpAny_call_super (KI _ _ hC) rfl ho rfl (fun c e => nomatch e) (PySem.W.looks_mroIn KI T.sub) (fun h2 e2 k2 => ?_)
  have I2 := I.kept (t' := s.toks + (ps.zip us).length) k2
  -- the wrapper
  have eaD : exo a D none = exo a D none := rfl
  have KI2 := I2.kIn
  obtain ⟨t2, ho2⟩ := exo_at I2.hok ea
  have hI : PySem.W.Looks (model P w) h2 (isInstance (.ref a) (.type "ValueError")) true := (show PySem.W.Looks (model P w) h2 (typeOf (.ref a)) (.ref D) from fun A Q E s k q => wpAny_typeOf_ref (k _ _ ho2) q).andThen (PySem.W.looks_subIn KI2 T.ve)
  have haD : a ≠ D := fun e => by
    have := KI2 _ _ hC
    rw [← e] at this
    have ho2' : h2.get? a = _ := ho2
    rw [this] at ho2'
    cases ho2'
  have hfnd := T.fnd
  unfold PySem.W.ks_superIn at hfnd
  rw [hcls] at hfnd
  refine PySem.W.kxs_getMethod PySem.W.kxs_ValueError e2 (PySem.W.looks_opaque KI2 T.opq) (l₀ := .ref D :: bm) ?_ rfl KI2 hfnd hI haD (by decide) ?_
  · exact fun A Q E s k q => wpAny_bind ((PySem.W.looks_clsIn KI2 hcls) A _ E s k (wpAny_pure q))
  have kpu : ∀ b o, h2.get? b = some o → (h2.push (PySem.W.kxs_mw "ValueError.__init__" a)).get? b = some o := fun b o e => Heap.get?_push_of_some _ e
  have I3 := I2.kept (t' := s.toks + (ps.zip us).length + 1) kpu
  have hu3 : (h2.push (PySem.W.kxs_mw "ValueError.__init__" a)).get? h2.objs.size = some (PySem.W.kxs_mw "ValueError.__init__" a) := Heap.get?_push_at rfl rfl
  have hfp : FpOk (ncx CX P w K mg base N F f A outer s H E) [] H h2.objs.size := I2.fpOk (Nat.le_refl _) (I2.hok.fresh (Nat.le_refl _))
  have I4 := I3.pinned (fp := [h2.objs.size]) (fun b hb => by rw [List.mem_singleton.mp hb]; exact hfp) (fun b hb => by rw [List.mem_singleton.mp hb]; exact ⟨_, hu3, fun v e => nomatch e⟩)
  rw [hst]
  refine PySem.W.kxs_callWith (i := "ValueError.__init__") (x := a) rfl ?_
  refine Calls.evalArgs_plain ?_
  have hsp := hta.run p3 _ _ _ _ _ I4 hq
  rw [show starEach [arg] (ncx CX P w K mg base N F f A outer s H E).env = _ from hst s.heap.objs.size] at hsp
  refine wpAny_mono hsp (fun us1 s1 ⟨ws, H1, I5, r5, hws, ea1, q1⟩ => ?_) fun _ _ z => z
  have hpin := I5.pin (h2.objs.size, PySem.W.kxs_mw "ValueError.__init__" a) (by
    refine List.mem_append_right _ (List.mem_append_right _ ?_)
    exact mem_pinsAt (List.mem_singleton.mpr rfl) hu3)
  refine ⟨hpin.1, ?_⟩
  have KI5 := I5.kIn
  obtain ⟨t5, ho5⟩ := exo_at I5.hok ea1
  have I6 := I5.unpinned
  obtain ⟨hp5, g5, d5, tk5, os5⟩ := s1
  refine call_veB (KI5 _ _ hC) ho5 hpin.1 (show us1.length ≤ sizeLine by rw [← Paired.length r5, sizeLine_eq]; omega) fun h' t1' k' hx' => ?_
  have J := I6.write (t' := tk5) (x := a) (e := a) (o := exo a D none) (by rw [ea1]; exact True.intro) (.inl rfl) k' ⟨_, hx'⟩ (exo_ok hx')
  have eu : upd H1 a (exo a D none) = H1 := by
    funext b
    by_cases hb : b = a
    · rw [hb, upd_same, ea1]
    · rw [upd_ne hb]
  rw [eu] at J
  exact wpAt_of_wpAny (fin J q1)
end

/-! ### C(e, ..): an exception whose context is None -/
theorem pmk_ini {X : Cx} {CX : CXT} {x : Str} {e : Expr} {es : List Expr} {ta : TA} {p pos : Pos} {C fI : Addr} {k : Nat} {fd : FuncData} {ps : List Str} {sp : Sp} (T : OexC X.K C) (iC : PySem.W.findIn X.K (.ref C) "__init__" = some (some (.ref fI))) (tI : PySem.W.typeIn X.K (.ref fI) = some (.type "function"))
    (F1 : FnOk X.prog X.w X.K X.mg X.base CX k fI fd ps sp) (hr : Room (k + 1) X.A) (hb : Binds X.K fd ps []) (hx : Passes CX X (fun _ _ _ => False)) (hg : Gl X x) (hm : X.mg x = some (.ref C)) (ha : PA X (e :: es) ta)
    (hdb : (x == ("__debug__" : Str)) = false := by decide) (he : starEach (e :: es) X.env = (false, eval e X.env) :: starEach es X.env := by rfl) (hpl : (backTo pos (starEach es X.env)).any (·.1) = false := by rfl) :
    L2N.PMk X (.Call (.Name x p) (e :: es) [] pos) (tMkO C sp [] ta) := by
  intro pins s σ H Q I h
  obtain ⟨nm, q, N, bs, bm, sn, sub, ab, col, dd, k0, k1, k2, k3, k5, hC, hbm⟩ := T.cls
  refine wpAny_Call_Name_kw (ld_glob I hg hm (PySem.W.callWith_K (h₀ := X.base) I.ok.mod.kin T.kC (thn (ha.run pos pins s σ H _ I h) fun us s1 ⟨vs, H1, I1, r1, hz, q1⟩ => ⟨I1.kIn, ?_⟩) he hpl) hdb)
  show wpAny _ _ (call (.ref C) us) _ _ _
  obtain ⟨hp, g, dr, tk, os⟩ := s1
  have le1 : hp.objs.size ≤ hp.objs.size + 1 := Nat.le_succ _
  have hq := q1 (hp.objs.size + 1) (I1.hok.fresh le1)
  rw [List.append_nil] at hq
  obtain ⟨G0, hG0⟩ : ∃ G0, G0 = (hp.push (PySem.W.kdv_tup us)).push (PySem.HandSPX.excO C hp.objs.size) := ⟨_, rfl⟩
  have kk : ∀ b o, hp.get? b = some o → G0.get? b = some o := fun b o e => by rw [hG0]; exact Heap.get?_push_of_some _ (Heap.get?_push_of_some _ e)
  have hget : G0.get? (hp.objs.size + 1) = some (PySem.HandSPX.excO C hp.objs.size) := by rw [hG0]; heap_get
  have I2 : Inv X pins σ (upd H1 (hp.objs.size + 1) (exo (hp.objs.size + 1) C none)) ⟨G0, g, dr, tk, os⟩ := I1.laid (t' := tk) (o := exo (hp.objs.size + 1) C none) kk le1 (exo_ok hget)
  have r2 : Vals (V.ref (hp.objs.size + 1) :: vs) (Value.ref (hp.objs.size + 1) :: us) := .cons rfl r1
  have hlen := F1.len _ _ _ _ hq
  have b2 := hb ⟨G0, g, dr, tk, os⟩ (Value.ref (hp.objs.size + 1) :: us) I2.kIn (by rw [List.append_nil, ← hlen]; exact r2.length.symm)
  rw [List.append_nil] at b2
  have hus : us.length ≤ sizeLine := by rw [← Paired.length r1, sizeLine_eq]; omega
  subst hG0
  refine wpAny_call (PySem.HandSPX.call_own F.excBase_ValueError (fun Y => PySem.HandSPX.refsVE_contains Y bm hbm) (I1.kIn _ _ hC) (PySem.W.looks_findIn I1.kIn iC) (fun self => PySem.W.bind_fn I1.kIn self tI) hus
    (codeAny_mono (F1.run _ X.stack _ _ ⟨Value.ref (hp.objs.size + 1) :: us, []⟩ _ _ _ (fun _ _ _ => False) (hr.make C us []) (I2.env0.make C us []) b2 r2 hq) fun r s' hq' => ?_))
  rcases r with er | fl
  · exact hx pins σ _ _ er s' I2 hq'
  cases fl with
  | ret u =>
    obtain ⟨v, H2, os2, bare2, un2, hok2, rv, ev, d, fs, ea, ed, hd1, q2⟩ := hq'
    subst ev
    obtain ⟨h2, g2, d2, t2, os'⟩ := s'
    obtain ⟨t0, G, J, kG, ge, hoe, na⟩ := mk_end0 (d2 := d2) (t2 := t2) I1 le1 kk un2 hok2 os2 bare2 ea ed hd1
    exact ⟨rv, hp.objs.size + 1, _, _, ⟨G, g2, d2, t2, os'⟩, _, .ref C, some d, rfl, J, kG, ge, hoe, ⟨rfl, rfl, fun vs hv => by cases hv; rfl⟩, rfl, rfl, na, rfl, bare2, raises_own T.exC T.tyC, q2⟩
  | _ => exact False.elim hq'

/-! ### the handled exception, asked in a def that is called with it -/
/-- what the written part says of an own exception class -/
structure ExK (K : PySem.W.Frag) (C : Addr) : Prop where
  cl : (PySem.W.clsIn K C).isSome = true
  ga : PySem.W.findIn K (.ref C) "__getattribute__" = some (some (.builtin "BaseException.__getattribute__"))
  gg : PySem.W.findIn K (.ref C) "__getattr__" = some none
  exC : PySem.W.subIn K (.ref C) (.type "BaseException") = some true
  hd : PySem.W.hasDictIn K C = true
  ca : PySem.W.findIn K (.ref C) "__class__" = some (some (.builtin "object.__class__"))
  cg : PySem.W.specialIn K (.builtin "object.__class__") "__get__" = some (some (.builtin "getset_descriptor.__get__"))
  ck : PySem.W.takesIn K (.builtin "object.__class__") = some true
  ob : PySem.W.mroIn K C (.type "object") = some true
section
variable {X : Cx} {a C : Addr} {d : Option Addr} {oe : Obj}
theorem inst_exc {h : Heap} {od : Option Obj} (ha : h.get? a = some oe) (hz : L2N.Zn (.ref C) d oe) (hf : ∃ vs, oe.data = .fields vs) (hd : match d, od with | some dx, some o => h.get? dx = some o | none, none => True | _, _ => False) : PySem.W.InstAt h a oe C od := by
  obtain ⟨oc, odd, oda, osl⟩ := oe
  obtain ⟨h1, h2, _⟩ := hz
  obtain ⟨vs, hv⟩ := hf
  dsimp only at h1 h2 hv
  subst h1 h2 hv
  refine ⟨ha, rfl, rfl, ?_⟩
  cases odd <;> cases od <;> exact hd
/-- isinstance(e, T): a the handled exception, d its dict -/
def rIsX (K : PySem.W.Frag) (C a : Addr) (d : Option Addr) : List V → Hp → VK → Prop := fun xs H Q => ∃ (c : V) (cv : Value) (b : Bool), xs = [.ref a, c] ∧ (∀ u, RelV c u → u = cv) ∧ PySem.W.kitOne K (.ref C) cv = some b ∧ (∀ dx, d = some dx → ∃ fs, H dx = some (.xd fs)) ∧ Q (.bl b) H
theorem call_isX (T : ExK X.K C) (hp : (a, oe) ∈ X.pn) (hz : L2N.Zn (.ref C) d oe) (hf : ∃ vs, oe.data = .fields vs) : CallR X (.builtin "isinstance") (rIsX X.K C a d) := by
  intro pins s σ H xs us Q I r h
  obtain ⟨c, cv, b, rfl, hcv, e, hdx, q⟩ := h
  obtain ⟨u1, u2, rfl, r1, r2⟩ := vals2 r
  obtain rfl : u1 = Value.ref a := r1
  have ec := hcv _ r2
  subst ec
  have hg := (I.pin (a, oe) (List.mem_append_left _ hp)).1
  have : ∃ od, PySem.W.InstAt s.heap a oe C od := by
    cases d with
    | none => exact ⟨none, inst_exc hg hz hf trivial⟩
    | some dx =>
      obtain ⟨fs, hfs⟩ := hdx dx rfl
      obtain ⟨mA, hns, _⟩ := (show ObjOk X.prog X.w H s.heap dx (.xd fs) from I.hok dx _ hfs)
      obtain ⟨o, es, ep, ho, _⟩ := hns
      exact ⟨some o, inst_exc hg hz hf ho⟩
  obtain ⟨od, J⟩ := this
  exact PySem.W.kia_one (PySem.W.kitx_exc (od := od) T.cl T.ga T.gg T.exC T.ca T.cg T.ck T.ob) I.kIn J e (fun z => nomatch z) fun tk => ⟨.bl b, H, I.tok tk, rfl, q⟩
/-- e.f -/
def tFx (a d : Addr) (f : Str) (te : TE) : TE := fun σ H Q => te σ H fun x H1 => x = .ref a ∧ ∃ (fs : List (Str × V)) (v : V), H1 d = some (.xd fs) ∧ fs.lookup f = some v ∧ Q v H1
theorem pe_fx {d : Addr} {e : Expr} {te : TE} {pos : Pos} {n : Str} (T : ExK X.K C) (hno : PySem.W.findIn X.K (.ref C) n = some none) (hp : (a, oe) ∈ X.pn) (hz : L2N.Zn (.ref C) (some d) oe) (hf : ∃ vs, oe.data = .fields vs) (he : PE X e te)
    (hb : attributeBase e n X.env (eval e X.env) = eval e X.env := by rfl) : PE X (.Attribute e n pos) (tFx a d n te) := by
  refine ⟨fun pins s σ H Q I h => attr_of hb (thn (he.run pins s σ H _ I h) fun u s1 hh => ?_)⟩
  obtain ⟨x, H1, I1, rx, ex, fs, v, ea, l, q⟩ := hh
  subst ex
  obtain rfl : u = Value.ref a := rx
  have hg := (I1.pin (a, oe) (List.mem_append_left _ hp)).1
  obtain ⟨mA, hns, hr⟩ := (show ObjOk X.prog X.w H1 s1.heap d (.xd fs) from I1.hok d _ ea)
  obtain ⟨od, ho, hl⟩ := lookIn_ns hns
  obtain ⟨w, hu, ru⟩ := RelO.some_of (v := v) (o := mA n) (by rw [← l]; exact hr n)
  exact HandSPX.exc_get I1.kIn (inst_exc (od := some od) hg hz hf ho) T.ga T.gg T.exC (PySem.W.findObj_own T.hd hno rfl (by rw [hl, hu])) (handed_of ru) ⟨v, H1, I1.tok _, ru, q⟩
end

end
section
/-! EX1: f-strings whose text does not matter; the __init__ of an error class with plain fields. -/
open PySem PySem.Spec PyProof.Rows L2 NdefX

/-! ### {x}, {x!r}: some text -/
def TxOk (x : V) : Prop := (∃ y : Str, x = .str y ∧ y.length ≤ 10000 ∧ ∀ c ∈ y.cps.toList, c < 16 ^ 8) ∨ (∃ i : Int, x = .int i ∧ i.natAbs.log2 < 1920) ∨ ∃ b, x = .bl b
def tTx (te : TE) : TE := fun σ H Q => te σ H fun x H1 => TxOk x ∧ ∀ z : Str, z.length ≤ 200000 → Q (.str z) H1
theorem tx_len (n : Nat) (h : n ≤ 200000) : n ≤ sizeLine := Nat.le_trans h (by decide)
theorem int_tx {i : Int} (h : i.natAbs.log2 < 1920) : (Str.ofString (toString i)).length ≤ 200000 := by
  have e := int_text_length_le (k := 1920) (by decide) h
  rw [PySem.ofString_length]
  omega
section
variable {X : Cx} {e : Expr} {te : TE} {pos : Pos}
theorem pe_tx (he : PE X e te) : PE X (.FormattedValue e (-1) none pos) (tTx te) := by
  refine ⟨fun pins s σ H Q I h => wpAny_FormattedValue_plain (thn (he.run pins s σ H _ I h) fun v s1 ⟨x, H1, I1, r1, hx, q⟩ => ?_)⟩
  rcases hx with ⟨y, rfl, hz, _⟩ | ⟨i, rfl, hz⟩ | ⟨b, rfl⟩
  · obtain ⟨t, rfl⟩ := r1
    exact wpAny_formatField_str ⟨.str y, H1, I1, ⟨t, rfl⟩, q y (by omega)⟩ ⟨.str y, H1, I1.tok _, ⟨_, rfl⟩, q y (by omega)⟩ (tx_len _ (by omega))
  · obtain ⟨t, rfl⟩ := r1
    exact wpAny_formatField_int hz ⟨.str (toString i), H1, I1.tok _, ⟨_, rfl⟩, q _ (int_tx hz)⟩
  · obtain rfl : v = Value.bool b := r1
    exact wpAny_formatField_bool ⟨.str (if b then "True" else "False"), H1, I1.tok _, ⟨_, rfl⟩, q _ (by cases b <;> decide)⟩
theorem pe_txR (he : PE X e te) : PE X (.FormattedValue e 114 none pos) (tTx te) := by
  refine ⟨fun pins s σ H Q I h => wpAny_FormattedValue_repr (thn (he.run pins s σ H _ I h) fun v s1 ⟨x, H1, I1, r1, hx, q⟩ => ?_)⟩
  rcases hx with ⟨y, rfl, hz, hc⟩ | ⟨i, rfl, hz⟩ | ⟨b, rfl⟩
  · obtain ⟨t, rfl⟩ := r1
    have hl : (reprText y).length ≤ 200000 := by
      have := StrLaws.reprText_len y hc
      omega
    exact pyReprObj_str (wpAny_formatField_str ⟨.str (reprText y), H1, I1.tok _, ⟨_, rfl⟩, q _ hl⟩ ⟨.str (reprText y), H1, I1.tok _, ⟨_, rfl⟩, q _ hl⟩ (tx_len _ hl)) (tx_len _ hl)
  · obtain ⟨t, rfl⟩ := r1
    exact pyReprObj_int hz (wpAny_formatField_str ⟨.str (toString i), H1, I1.tok _, ⟨_, rfl⟩, q _ (int_tx hz)⟩ ⟨.str (toString i), H1, I1.tok _, ⟨_, rfl⟩, q _ (int_tx hz)⟩ (int_text_fits hz))
  · obtain rfl : v = Value.bool b := r1
    have hl : (if b then ("True" : Str) else ("False" : Str)).length ≤ 200000 := by cases b <;> decide
    exact pyReprObj_bool (wpAny_formatField_str ⟨.str (if b then "True" else "False"), H1, I1.tok _, ⟨_, rfl⟩, q _ hl⟩ ⟨.str (if b then "True" else "False"), H1, I1.tok _, ⟨_, rfl⟩, q _ hl⟩ (tx_len _ hl))
end
/-- the pieces of such a text: written ones, names -/
inductive Pc where
  | c (z : Str) | v (i : Nat)
def Pc.t : Pc → TE
  | .c z => tC (.str z)
  | .v i => tTx (tVar i)
def Pc.ok (σ : L2.St) : Pc → Prop
  | .c z => z.length ≤ 200000
  | .v i => ∃ x, σ[i]? = some (some x) ∧ TxOk x
theorem tJs_pc {σ : L2.St} {H : Hp} {Q : Str → Hp → Prop} (hq : ∀ out, Q out H) : ∀ (l : List Pc) (acc : Str), acc.length + 200000 * l.length ≤ sizeLine → (∀ p ∈ l, p.ok σ) → tJs (l.map Pc.t) acc σ H Q
  | [], acc, _, _ => hq acc
  | .c z :: l, acc, hz, ho => by
    have h1 : z.length ≤ 200000 := ho _ (List.mem_cons_self ..)
    have hl : (acc ++ z).length ≤ acc.length + 200000 := by
      rw [strLen_append]
      omega
    rw [List.length_cons] at hz
    refine ⟨z, rfl, by omega, tJs_pc hq l _ (by omega) fun p hp => ho p (List.mem_cons_of_mem _ hp)⟩
  | .v i :: l, acc, hz, ho => by
    obtain ⟨x, hx, hok⟩ := ho (.v i) (List.mem_cons_self ..)
    rw [List.length_cons] at hz
    refine ⟨x, hx, hok, fun z h1 => ⟨z, rfl, ?_, tJs_pc hq l _ ?_ fun p hp => ho p (List.mem_cons_of_mem _ hp)⟩⟩
    · rw [strLen_append]
      omega
    · rw [strLen_append]
      omega
def tJp (l : List Pc) : TE := fun σ H Q => tJs (l.map Pc.t) Str.empty σ H fun out H1 => Q (.str out) H1

/-! ### self.f = x, self.g = y, .. -/
def tFl (K : PySem.W.Frag) : List (Str × Nat) → TS
  | [] => tNext
  | (f, i) :: r => tSeq (tOst K f (tVar 0) (tVar i)) (tFl K r)
def flV (vs : List V) (fl : List (Str × Nat)) : List (Str × V) := fl.map fun p => (p.1, vs.getD p.2 .non)
theorem upd_upd {H : Hp} {a : Addr} {o o' : HO} : upd (upd H a o) a o' = upd H a o' := by
  funext b
  by_cases h : b = a
  · rw [h, upd_same, upd_same]
  · rw [upd_ne h, upd_ne h, upd_ne h]
theorem fl_old {K : PySem.W.Frag} {D : Addr} (X0 : OexC K D) {a d : Addr} (had : d ≠ a) {vs : List V} {σ : L2.St} (h0 : σ[0]? = some (some (.ref a))) (hσ : ∀ (i : Nat) (v : V), vs[i]? = some v → σ[i]? = some (some v)) {De : Ends} : ∀ (fl : List (Str × Nat)) (fs : List (Str × V)) (H : Hp), H a = some (exo a D (some d)) → H d = some (exd d fs) →
    fs.length + fl.length ≤ 900 → (∀ p ∈ fl, p.2 < vs.length ∧ PySem.W.findIn K (.ref D) p.1 = some none) → De.nx σ (upd H d (exd d ((flV vs fl).reverse ++ fs))) → tFl K fl De σ H
  | [], fs, H, ha, hd, _, _, q => by
    have e : upd H d (exd d fs) = H := by
      funext b
      by_cases h : b = d
      · rw [h, upd_same, hd]
      · rw [upd_ne h]
    have q : De.nx σ (upd H d (exd d fs)) := q
    rw [e] at q
    exact q
  | (f, i) :: r, fs, H, ha, hd, hz, hf, q => by
    obtain ⟨hi, hn⟩ := hf (f, i) (List.mem_cons_self ..)
    rw [List.length_cons] at hz
    have hv : vs[i]? = some (vs.getD i .non) := by rw [List.getD_eq_getElem?_getD, List.getElem?_eq_getElem hi]; rfl
    refine ⟨_, hσ i _ hv, _, h0, a, D, rfl, X0, hn, .inr ⟨d, fs, ha, hd, by omega, ?_⟩⟩
    refine fl_old X0 had h0 hσ r _ _ (by rw [upd_ne had.symm]; exact ha) upd_same (by rw [List.length_cons]; omega) (fun p hp => hf p (List.mem_cons_of_mem _ hp)) ?_
    rw [upd_upd]
    have e : (flV vs ((f, i) :: r)).reverse ++ fs = (flV vs r).reverse ++ (f, vs.getD i .non) :: fs := by
      show ((f, vs.getD i .non) :: flV vs r).reverse ++ fs = _
      rw [List.reverse_cons, List.append_assoc]
      rfl
    rw [e] at q
    exact q
theorem fl_new {K : PySem.W.Frag} {D : Addr} (X0 : OexC K D) {a : Addr} {vs : List V} {σ : L2.St} (h0 : σ[0]? = some (some (.ref a))) (hσ : ∀ (i : Nat) (v : V), vs[i]? = some v → σ[i]? = some (some v)) {De : Ends} {f : Str} {i : Nat} {r : List (Str × Nat)} {H : Hp} (ha : H a = some (exo a D none))
    (hz : r.length ≤ 800) (hf : ∀ p ∈ (f, i) :: r, p.2 < vs.length ∧ PySem.W.findIn K (.ref D) p.1 = some none)
    (q : ∀ d, H d = none → d ≠ a → De.nx σ (upd (upd (upd H d (exd d [(f, vs.getD i .non)])) a (exo a D (some d))) d (exd d (flV vs ((f, i) :: r)).reverse))) : tFl K ((f, i) :: r) De σ H := by
  obtain ⟨hi, hn⟩ := hf (f, i) (List.mem_cons_self ..)
  have hv : vs[i]? = some (vs.getD i .non) := by rw [List.getD_eq_getElem?_getD, List.getElem?_eq_getElem hi]; rfl
  refine ⟨_, hσ i _ hv, _, h0, a, D, rfl, X0, hn, .inl ⟨ha, fun d hd hda => ?_⟩⟩
  refine fl_old X0 hda h0 hσ r [(f, vs.getD i .non)] _ upd_same (by rw [upd_ne hda, upd_same]) (by show 1 + r.length ≤ 900; omega) (fun p hp => hf p (List.mem_cons_of_mem _ hp)) ?_
  have e : (flV vs ((f, i) :: r)).reverse = (flV vs r).reverse ++ [(f, vs.getD i .non)] := by
    show ((f, vs.getD i .non) :: flV vs r).reverse = _
    rw [List.reverse_cons]
  rw [← e]
  exact q d hd hda

/-! ### the promise of such an __init__ -/
/-- fields by slots (0 is self), tx: the slots that are shown -/
def spI (K : PySem.W.Frag) (C : Addr) (fl : List (Str × Nat)) (n : Nat) (tx : List Nat) : Sp := fun vs H Q _ => ∃ a us, vs = .ref a :: us ∧ us.length = n ∧ H a = some (exo a C none) ∧ (∀ i ∈ tx, ∃ x, vs[i]? = some x ∧ TxOk x) ∧
  ∀ d, H d = none → d ≠ a → Q .non (upd (upd (upd H d (exd d (flV vs (fl.take 1)))) a (exo a C (some d))) d (exd d (flV vs fl).reverse))
def pcV : List Pc → List Nat
  | [] => []
  | .c _ :: l => pcV l
  | .v i :: l => i :: pcV l
def pcOk : List Pc → Bool
  | [] => true
  | .c z :: l => decide (z.length ≤ 200000) && pcOk l
  | .v _ :: l => pcOk l
theorem pcOk_mem {z : Str} : ∀ {l : List Pc}, pcOk l = true → Pc.c z ∈ l → z.length ≤ 200000
  | .c y :: l, h, hm => by
    unfold pcOk at h
    rw [Bool.and_eq_true, decide_eq_true_eq] at h
    rcases List.mem_cons.mp hm with e | e
    · cases e
      exact h.1
    · exact pcOk_mem h.2 e
  | .v _ :: l, h, hm => by
    rcases List.mem_cons.mp hm with e | e
    · cases e
    · exact pcOk_mem (l := l) h e
theorem pcV_mem {i : Nat} : ∀ {l : List Pc}, Pc.v i ∈ l → i ∈ pcV l
  | .c _ :: l, h => by
    rcases List.mem_cons.mp h with h | h
    · cases h
    · exact pcV_mem (l := l) h
  | .v j :: l, h => by
    rcases List.mem_cons.mp h with h | h
    · cases h
      exact List.mem_cons_self ..
    · exact List.mem_cons_of_mem _ (pcV_mem (l := l) h)
theorem startF_get {N : List Str} {vs : List V} {ws : List (Option V)} {i : Nat} {v : V} (h : vs[i]? = some v) : (startF N vs ws)[i]? = some (some v) := by
  unfold startF
  have hi := (List.getElem?_eq_some_iff.mp h).1
  rw [List.getElem?_append_left (by rw [List.length_map]; exact hi), List.getElem?_map, h]
  rfl
section
variable {CX : CXT} {P : Program} {w : World} {K : PySem.W.Frag} {mg : Str → Option Value} {base : Heap} {N ps : List Str} {F : NF} {f D : Addr} {k : Nat}
theorem ini_plain {arg : Expr} {rest : List Stmt} {p0 p1 p2 p3 pos : Pos} (fl : List (Str × Nat)) (pcs : List Pc) (T : IniK P K mg f D F ps) (S : NScope N ps ["__class__"] F.scope) (hbody : F.body = .Expr (.Call (.Attribute (.Call (.Name "super" p0) [] [] p1) "__init__" p2) [arg] [] p3) pos :: rest)
    (X0 : OexC K D) (hps : 0 < ps.length) (hfl : fl ≠ []) (hf : ∀ p ∈ fl, p.2 < ps.length ∧ PySem.W.findIn K (.ref D) p.1 = some none) (hz : fl.length ≤ 500) (hp1 : pcs.length ≤ 20) (hp2 : pcOk pcs = true)
    (hev : ∀ L, ∃ pl, eval (.Call (.Attribute (.Call (.Name "super" p0) [] [] p1) "__init__" p2) [arg] [] p3) (envF F f L) = (do
      let ov ← attributeBase (.Call (.Name "super" p0) [] [] p1) "__init__" (envF F f L) (eval (.Call (.Name "super" p0) [] [] p1) (envF F f L))
      standAt p2.atName
      let (fx, first) ← holding [ov] (getMethod ov "__init__" pl)
      callWith p3 fx first (backTo p3 (starEach [arg] (envF F f L))) []))
    (hsw : ∀ L, swapsWith (.Call (.Attribute (.Call (.Name "super" p0) [] [] p1) "__init__" p2) [arg] [] p3) none pos.line (envF F f L) = pure false)
    (hst : ∀ L, starEach [arg] (envF F f L) = (false, eval arg (envF F f L)) :: starEach [] (envF F f L))
    (hA : ∀ (A : Around) (outer : List Env) (s : Shared) (H : Hp) (E : XK), PE (ncx CX P w K mg base N F f A outer s H E) arg (tJp pcs))
    (hR : ∀ (A : Around) (outer : List Env) (s : Shared) (H : Hp) (E : XK), PSs (ncx CX P w K mg base N F f A outer s H E) rest (tFl K fl)) :
    ∃ fd, FnOk P w K mg base CX (k + 1) f fd ps (spI K D fl (ps.length - 1) (pcV pcs)) ∧ ∃ oc od osl doc pm an dV kV ctv, fd = PySem.W.fnX F.name F.qual F.params F.body F.scope F.cl dV kV doc pm an (.ref F.c) ctv ∧ K.lookup f = some ⟨oc, od, .func fd, osl⟩ := by
  refine fn_ini T S hbody X0 (fun vs H Q E h => ?_) hps hev hsw hst fun A outer s H vs Q E hr h => ?_
  · obtain ⟨a, us, rfl, hl, _⟩ := h
    rw [List.length_cons, hl]
    omega
  · obtain ⟨a, us, rfl, hl, ha, htx, hq⟩ := h
    refine ⟨a, us, _, _, rfl, ha, pa_cons (hA A outer s H E) pa_nil (hst _), hR A outer s H E, ?_⟩
    refine tJs_pc (fun out => ?_) pcs _ ?_ fun p hp => ?_
    · refine ⟨by show 1 ≤ 1000; decide, ha, ?_⟩
      cases fl with
      | nil => exact absurd rfl hfl
      | cons p r =>
        obtain ⟨g, i⟩ := p
        rw [List.length_cons] at hz
        exact fl_new X0 (startF_get (vs := .ref a :: us) rfl) (fun i v h => startF_get h) ha (by omega) (fun p hp => ⟨by rw [List.length_cons, hl]; have := (hf p hp).1; omega, (hf p hp).2⟩) fun d hd hda => hq d hd hda
    · show 0 + _ ≤ _
      rw [sizeLine_eq]
      omega
    · cases p with
      | c z => exact pcOk_mem hp2 hp
      | v i =>
        obtain ⟨x, hx, hok⟩ := htx i (pcV_mem hp)
        exact ⟨x, startF_get hx, hok⟩
end

end
section
/-! DL7: defs that may raise, calls of them, raise. -/

/-! ### promises that may raise -/
abbrev MX := List D → (B → Prop) → (Xc → Prop) → Prop
def spX (K : PySem.W.Frag) (mg : Str → Option Value) (m : MX) : Sp := fun vs H Q E => ∃ Hf ds, Same Hf H ∧ RepL K Hf vs ds ∧
  m ds (fun r => ∀ v H' Hf', Co ⟨H, Hf, none⟩ Hf' none none H' → RAt K ⟨H, Hf, none⟩ Hf' none H' v r → Q v H')
    fun x => ∀ C dd H' Hf', mg x.c = some (.ref C) → Co ⟨H, Hf, none⟩ Hf' none none H' → XdAt K Hf' dd x.fs → E (.ref C) dd H'
structure Fx (P : Program) (w : World) (K : PySem.W.Frag) (mg : Str → Option Value) (base : Heap) (k : Nat) (x : Str) (m : MX) : Prop where
  ex : ∃ f fd ps, FnOk P w K mg base (L2N.CX P w) k f fd ps (spX K mg m) ∧ mg x = some (.ref f) ∧ PySem.W.keepIn K (.ref f) = true ∧ Binds K fd ps []
  mono : ∀ ds k k' e e', (∀ b, k b → k' b) → (∀ x, e x → e' x) → m ds k e → m ds k' e'
section
variable {P : Program} {w : World} {K : PySem.W.Frag} {mg : Str → Option Value} {base : Heap}
theorem okX {x : Str} {st : Stmt} {N ps : List Str} {k : Nat} {m : MX} (F : Df K mg x st ps) (S : FnScope N ps (defScope st)) (hl : ∀ ds κ ε, m ds κ ε → ds.length = ps.length)
    (mono : ∀ ds k k' e e', (∀ b, k b → k' b) → (∀ x, e x → e' x) → m ds k e → m ds k' e')
    (hb : ∀ (f : Addr) (cdv : Value) (A : Around) (outer : List Env) (s : Shared) (H : Hp) (E : XK), Room k (A.deeper (envOfC x (defScope st) s.heap.objs.size f cdv)) →
      ∃ t T, PDSs (cxOf (L2N.CX P w) P w K mg base N x (defScope st) f cdv A outer s H E) (fun cls d _ H => E cls d H) (defBody st) t T ∧
        ∀ ds κ ε, m ds κ ε → T ⟨fun _ => κ (.fro .non), rtP κ, fun _ => False, fun _ => False, fun x _ => ε x⟩ ⟨startD N ds, none⟩) :
    Fx P w K mg base (k + 1) x m := by
  obtain ⟨f, fd, FF, g, b⟩ := F.ex
  have kp := FF.kp
  obtain ⟨oc, od, kV, doc, pm, an, cdv, ct, osl, rfl, lk, hcd⟩ := FF.ex
  refine ⟨⟨f, _, ps, fn_of lk hcd S (fun vs H Q E h => ?_) fun A outer s H vs Q E hr h => ?_, g, kp, b⟩, mono⟩
  · obtain ⟨Hf, ds, _, r, hm⟩ := h
    rw [r.len]
    exact hl _ _ _ hm
  · obtain ⟨Hf, ds, e, r, hm⟩ := h
    obtain ⟨t, T, pd, q⟩ := hb f cdv A outer s H E hr
    refine ⟨t, pd.p, pd.s ⟨H, Hf, none⟩ Hf none ⟨startD N ds, none⟩ (start N vs) H _ _ (at_start e r) (q ds _ _ hm) ⟨fun Hf' aS Γ σ H' A' z => ?_, fun Hf' aS S' H' v r' c b' z => ?_, fun _ _ _ _ _ _ z => z, fun _ _ _ _ _ _ z => z, fun Hf' aS Γ σ H' x C dd A' mx hx z => ?_⟩⟩
    · exact z .non H' Hf' (A'.co.noS rfl) Rep.non
    · cases r' with
      | sto => exact z.elim
      | lk d => exact z.2 v H' Hf' (c.noS rfl) (show Rep K Hf' v d from lk_sca b' z.1)
      | fro d => exact z v H' Hf' (c.noS rfl) b'
      | own o =>
        obtain ⟨a, e1, h1, h2, h3, h4⟩ := b'
        exact z v H' Hf' (c.noS rfl) ⟨a, e1, h1, h2, h3, fun e => nomatch e⟩
    · exact z C dd H' Hf' mx (A'.co.noS rfl) hx
end

/-! ### expressions that may raise -/
abbrev DX := Ev → (B → Ev → Prop) → (Xc → Ev → Prop) → Prop
def SOX (K : PySem.W.Frag) (ω : Wm) (t : TE) (T : DX) : Prop := ∀ y Hf aS Γ σ H Φ Ψ Q, At K y Hf aS Γ σ H → T Γ Φ Ψ →
  (∀ r Γ' v Hf' H', At K y Hf' aS Γ' σ H' → Same Hf Hf' → Keep aS H H' → BAt K y Hf' aS H' v r → Apart v r Γ' σ → Φ r Γ' → Q v H') →
  (∀ x Γ' Hf' H' C dd, At K y Hf' aS Γ' σ H' → ω.mg x.c = some (.ref C) → XdAt K Hf' dd x.fs → Ψ x Γ' → ω.W (.ref C) dd σ H') → t σ H Q
structure PDX (X : Cx) (ξ : WX) (e : Expr) (t : TE) (T : DX) : Prop where
  p : PE X e t
  s : SOX X.K ⟨X.mg, ξ⟩ t T
def dUpX (T : DO) : DX := fun Γ Φ _ => T Γ Φ
section
variable {K : PySem.W.Frag} {ω : Wm} {t : TE} {TO : DO} {TX : DX} {ta : TA} {TAs : DA}
theorem SO.x (h : SO K t TO) : SOX K ω t (dUpX TO) := fun y Hf aS Γ σ H Φ Ψ Q A hT k _ => h y Hf aS Γ σ H Φ Q A hT k
/-- behind a def that may raise: as behind one that does not -/
def dCallX (m : MX) (T : DA) : DX := fun Γ Φ Ψ => T Γ fun ds Γ1 => m ds (fun b => Φ b Γ1) fun x => Ψ x Γ1
theorem back_b {y : Yn} {Hf Hf' : Hp} {aS : Option Addr} {Γ : Ev} {σ : L2.St} {H H' : Hp} {v : V} {b : B} (A : At K y Hf aS Γ σ H) (c' : Co ⟨H, Hf, none⟩ Hf' none none H') (b' : RAt K ⟨H, Hf, none⟩ Hf' none H' v b) :
    BAt K y Hf' aS H' v b ∧ Apart v b Γ σ := by
  have c1 := A.co
  cases b with
  | fro d => exact ⟨b', trivial⟩
  | lk d => exact b'.elim
  | sto => obtain ⟨_, _, q⟩ := b'; cases q
  | own o =>
    obtain ⟨a, rfl, g1, g2, g3, g4⟩ := b'
    exact ⟨⟨a, rfl, g1, g2, c1.old g3, c1.sne g3⟩, A.apart (o := o) g3⟩
theorem sox_call {m : MX} (h : SA K ta TAs) (mono : ∀ ds k k' e e', (∀ b, k b → k' b) → (∀ x, e x → e' x) → m ds k e → m ds k' e') : SOX K ω (tCallS (spX K ω.mg m) (WE ω.W) ta) (dCallX m TAs) := by
  intro y Hf aS Γ σ H Φ Ψ Q A hT k kx
  refine h y Hf aS Γ σ H _ _ A hT fun ds Γ1 vs Hf1 H1 A1 e1 k1 r1 hT1 => ?_
  refine ⟨Hf1, ds, A1.co.frz, r1, mono _ _ _ _ _ (fun b hb v H' Hf' c' b' => ?_) (fun x hx C dd H' Hf' hm c' hd => ?_) hT1⟩
  · have c2 := A1.co.put c'
    have q := back_b A1 c' b'
    exact k b Γ1 v Hf' H' (A1.behind c2) (e1.trans c'.mon) (k1.trans c2.keep) q.1 q.2 hb
  · exact kx x Γ1 Hf' H' C dd (A1.behind (A1.co.put c')) hm hd hx
/-- .. where it does not raise -/
def dCallN (m : MX) (T : DA) : DO := fun Γ Φ => T Γ fun ds Γ1 => m ds (fun b => Φ b Γ1) fun _ => False
theorem so_callN {mg : Str → Option Value} {m : MX} (h : SA K ta TAs) (mono : ∀ ds k k' e e', (∀ b, k b → k' b) → (∀ x, e x → e' x) → m ds k e → m ds k' e') : SO K (tCall (spX K mg m) [] E0 ta) (dCallN m TAs) := by
  intro y Hf aS Γ σ H Φ Q A hT k
  refine h y Hf aS Γ σ H _ _ A hT fun ds Γ1 vs Hf1 H1 A1 e1 k1 r1 hT1 => ?_
  refine ⟨Hf1, ds, A1.co.frz, by rw [List.append_nil]; exact r1, mono _ _ _ _ _ (fun b hb v H' Hf' c' b' => ?_) (fun x hx => hx.elim) hT1⟩
  have c2 := A1.co.put c'
  have q := back_b A1 c' b'
  exact k b Γ1 v Hf' H' (A1.behind c2) (e1.trans c'.mon) (k1.trans c2.keep) q.1 q.2 hb
/-- [e], e may raise -/
def dLstX (T : DX) : DX := fun Γ Φ Ψ => T Γ (frzB fun d Γ1 => Φ (.own (.lst [d])) Γ1) Ψ
theorem sox_lst1 (h : SOX K ω t TX) : SOX K ω (tLst (tCons t tNil)) (dLstX TX) := fun y Hf aS Γ σ H Φ Ψ Q A hT k kx =>
  h y Hf aS Γ σ H _ _ _ A hT (fun r Γ1 v Hf1 H1 A1 e1 k1 hb ha hΦ => ⟨by show 1 ≤ sizeLine; decide, fun p hp => by
    have fin : ∀ {Hf2 : Hp} {d : D}, At K y Hf2 aS Γ1 σ H1 → Same Hf1 Hf2 → Rep K Hf2 v d → Φ (.own (.lst [d])) Γ1 → Q (.ref p) (upd H1 p (.lst [v])) := fun {Hf2 d} A2 e2 hr q =>
      k (.own (.lst [d])) Γ1 (.ref p) Hf2 _ (A2.layO hp) (e1.trans e2) (k1.trans (A2.layK hp).2) ⟨p, rfl, ⟨_, upd_same, .cons hr .nil⟩, A2.co.frzn hp, A2.co.old hp, A2.co.sne hp⟩ (A2.apart (o := .lst []) hp) q
    cases r with
    | fro d => exact fin A1 (Same.refl _) hb hΦ
    | sto => exact hΦ.elim
    | lk d => exact fin A1 (Same.refl _) (lk_sca hb hΦ.1) hΦ.2
    | own o =>
      obtain ⟨a, rfl, h1, h2, h3, h4⟩ := hb
      obtain ⟨Hf2, A2, e2, hr⟩ := A1.freeze h1 h2 h3 h4 ha
      exact fin A2 e2 hr hΦ⟩) kx
end
theorem passN {X : Cx} : Passes (L2N.CX X.prog X.w) X E0 := fun _ _ _ _ _ _ _ h => by
  obtain ⟨_, _, _, _, _, _, _, _, _, _, _, _, z⟩ := h
  exact z.elim
section
variable {X : Cx} {ξ : WX} {e : Expr} {es : List Expr} {t : TE} {TO : DO} {TX : DX} {tas : TA} {TAs : DA} {pos p : Pos} {x : Str}
theorem PDO.toX (h : PDO X e t TO) : PDX X ξ e t (dUpX TO) := ⟨h.p, h.s.x⟩
theorem x_call {j k : Nat} {m : MX} (F : Fx X.prog X.w X.K X.mg X.base j x m) (hr : Room k X.A) (hj : j ≤ k) (tk : L2N.Takes X ξ) (ha : PDA X (e :: es) tas TAs) (hg : Gl X x := by rfl) (hdb : (x == ("__debug__" : Str)) = false := by decide)
    (he : starEach (e :: es) X.env = (false, eval e X.env) :: starEach es X.env := by rfl) (hpl : (backTo pos (starEach es X.env)).any (·.1) = false := by rfl) :
    PDX X ξ (.Call (.Name x p) (e :: es) [] pos) (tCallS (spX X.K X.mg m) (WE ξ) tas) (dCallX m TAs) := by
  obtain ⟨f, fd, ps, G, g, kp, b⟩ := F.ex
  exact ⟨pe_callS G (hr.mono hj) hg g kp b (fun σ => L2N.passAt tk σ) ha.p hdb he hpl, sox_call (ω := ⟨X.mg, ξ⟩) ha.s F.mono⟩
theorem o_callN {j k : Nat} {m : MX} (F : Fx X.prog X.w X.K X.mg X.base j x m) (hr : Room k X.A) (hj : j ≤ k) (ha : PDA X (e :: es) tas TAs) (hg : Gl X x := by rfl) (hdb : (x == ("__debug__" : Str)) = false := by decide)
    (he : starEach (e :: es) X.env = (false, eval e X.env) :: starEach es X.env := by rfl) (hpl : (backTo pos (starEach es X.env)).any (·.1) = false := by rfl) :
    PDO X (.Call (.Name x p) (e :: es) [] pos) (tCall (spX X.K X.mg m) [] E0 tas) (dCallN m TAs) := by
  obtain ⟨f, fd, ps, G, g, kp, b⟩ := F.ex
  exact ⟨pe_call G (hr.mono hj) hg g kp b .nil passN ha.p hdb he hpl, so_callN ha.s F.mono⟩
theorem x_lst1 (h : PDX X ξ e t TX) (hs : starEach [e] X.env = (false, eval e X.env) :: starEach [] X.env := by rfl) : PDX X ξ (.List [e] pos) (tLst (tCons t tNil)) (dLstX TX) := ⟨pe_lst (pa_cons h.p pa_nil hs), sox_lst1 h.s⟩
/-- a constant of the module -/
theorem e_gl {v : V} {d : D} {u : Value} (hm : X.mg x = some u) (r : RelV v u) (h : ∀ H : Hp, Rep X.K H v d) (hg : Gl X x := by rfl) (hd : (x == ("__debug__" : Str)) = false := by decide) : PDE X (.Name x pos) (tC v) (dC d) := ⟨pe_glob hg hm r hd, se_c h⟩
end

/-! ### statements -/
section
variable {K : PySem.W.Frag} {ω : Wm} {t : TE} {TX : DX}
def dRetX (T : DX) : DS := fun De Γ => T Γ (fun b Γ1 => De.rt b Γ1.S) De.ex
def dDropX (T : DX) : DS := fun De Γ => T Γ (fun _ Γ1 => De.nx Γ1) De.ex
def dSetX (i : Nat) (T : DX) : DS := fun De Γ => T Γ (fun b Γ1 => De.nx (Γ1.set i b)) De.ex
theorem ss_retX (h : SOX K ω t TX) : SS K ω (tRet t) (dRetX TX) := fun y Hf aS Γ σ H De Dn A hT L =>
  h y Hf aS Γ σ H _ _ _ A hT (fun b Γ1 v Hf1 H1 A1 e1 k1 hb ha q => L.rt Hf1 aS Γ1.S H1 v b A1.co hb q) fun x Γ1 Hf1 H1 C dd A1 m1 d1 q => L.ex Hf1 aS Γ1 σ H1 x C dd A1 m1 d1 q
theorem ss_dropX (h : SOX K ω t TX) : SS K ω (tDrop t) (dDropX TX) := fun y Hf aS Γ σ H De Dn A hT L =>
  h y Hf aS Γ σ H _ _ _ A hT (fun b Γ1 v Hf1 H1 A1 e1 k1 hb ha q => L.nx Hf1 aS Γ1 σ H1 A1 q) fun x Γ1 Hf1 H1 C dd A1 m1 d1 q => L.ex Hf1 aS Γ1 σ H1 x C dd A1 m1 d1 q
theorem ss_setX (i : Nat) (h : SOX K ω t TX) : SS K ω (tAsg t (gName i)) (dSetX i TX) := fun y Hf aS Γ σ H De Dn A hT L =>
  h y Hf aS Γ σ H _ _ _ A hT (fun b Γ1 v Hf1 H1 A1 e1 k1 hb ha q => L.nx Hf1 aS _ _ H1 (A1.store hb ha) q) fun x Γ1 Hf1 H1 C dd A1 m1 d1 q => L.ex Hf1 aS Γ1 σ H1 x C dd A1 m1 d1 q
end
section
variable {X : Cx} {ξ : WX} {e : Expr} {t : TE} {TX : DX} {pos : Pos}
theorem s_retX (h : PDX X ξ e t TX) : PDS X ξ (.Return (some e) pos) (tRet t) (dRetX TX) := ⟨ps_ret h.p, ss_retX h.s⟩
theorem s_dropX (h : PDX X ξ e t TX) (hs : swapsWith e none pos.line X.env = pure false := by rfl) : PDS X ξ (.Expr e pos) (tDrop t) (dDropX TX) := ⟨ps_expr h.p hs, ss_dropX h.s⟩
theorem s_setX (i : Nat) {x : Str} {p : Pos} (hN : X.N.Nodup) (h : PDX X ξ e t TX) (hi : X.N[i]? = some x := by rfl) (hx : Loc X.env.scope x := by first | exact .inl rfl | exact .inr rfl) (hs : swapsWith e (some (.Name x p)) pos.line X.env = pure false := by rfl)
    (hf : X.fn x = true ∨ X.env.scope.names.lookup x = some .local := by first | exact .inl rfl | exact .inr rfl) : PDS X ξ (.Assign [.Name x p] e pos) (tAsg t (gName i)) (dSetX i TX) := ⟨ps_set hN hi hx h.p hs hf, ss_setX i h.s⟩
end

/-! ### raise C(..), C with an own __init__ -/
structure Fi (P : Program) (w : World) (K : PySem.W.Frag) (mg : Str → Option Value) (base : Heap) (k : Nat) (c : Str) (fl : List (Str × Nat)) (n : Nat) (tx : List Nat) : Prop where
  ex : ∃ C fI fd ps, mg c = some (.ref C) ∧ OexC K C ∧ PySem.W.findIn K (.ref C) "__init__" = some (some (.ref fI)) ∧ PySem.W.typeIn K (.ref fI) = some (.type "function") ∧ FnOk P w K mg base CX0 k fI fd ps (spI K C fl n tx) ∧ Binds K fd ps []
def D.txt (d : D) : Prop := match d with
  | .str y => y.length ≤ 10000 ∧ ∀ c ∈ y.cps.toList, c < 16 ^ 8
  | .int i => i.natAbs.log2 < 1920
  | .bl _ => True
  | _ => False
def txD (ds : List D) : List Nat → Prop
  | [] => True
  | i :: l => (ds.getD (i - 1) .non).txt ∧ txD ds l
def flD (ds : List D) (fl : List (Str × Nat)) : List (Str × D) := (fl.map fun p => (p.1, ds.getD (p.2 - 1) .non)).reverse
def flOk (fl : List (Str × Nat)) (tx : List Nat) (n : Nat) : Bool := fl.all (fun p => decide (1 ≤ p.2) && decide (p.2 ≤ n)) && tx.all (fun i => decide (1 ≤ i) && decide (i ≤ n)) && decide (n ≤ 900)
def dRaise (c : Str) (fl : List (Str × Nat)) (n : Nat) (tx : List Nat) (T : DA) : DS := fun De Γ => T Γ fun ds Γ1 => ds.length = n ∧ flOk fl tx n = true ∧ txD ds tx ∧ De.ex ⟨c, flD ds fl⟩ Γ1
section
variable {K : PySem.W.Frag} {ω : Wm} {ta : TA} {TAs : DA}
theorem txt_ok {H : Hp} {v : V} {d : D} (r : Rep K H v d) (h : d.txt) : TxOk v := by
  cases r with
  | str y => exact .inl ⟨y, rfl, h.1, h.2⟩
  | int i => exact .inr (.inl ⟨i, rfl, h⟩)
  | bl b => exact .inr (.inr ⟨b, rfl⟩)
  | _ => exact h.elim
theorem txD_mem {ds : List D} : ∀ {tx : List Nat}, txD ds tx → ∀ i ∈ tx, (ds.getD (i - 1) .non).txt
  | [], _, i, h => absurd h List.not_mem_nil
  | j :: l, ht, i, h => by
    rcases List.mem_cons.mp h with e | e
    · rw [e]; exact ht.1
    · exact txD_mem ht.2 i e
theorem RepF.app {H : Hp} : ∀ {fs gs : List (Str × V)} {ds es : List (Str × D)}, RepF K H fs ds → RepF K H gs es → RepF K H (fs ++ gs) (ds ++ es)
  | _, _, _, _, .nil, h => h
  | _, _, _, _, .cons h r, g => .cons h (RepF.app r g)
theorem RepF.rev {H : Hp} : ∀ {fs : List (Str × V)} {ds : List (Str × D)}, RepF K H fs ds → RepF K H fs.reverse ds.reverse
  | _, _, .nil => .nil
  | _, _, .cons h r => by
    rw [List.reverse_cons, List.reverse_cons]
    exact (RepF.rev r).app (.cons h .nil)
theorem repF_fl {H : Hp} {a : Addr} {vs : List V} {ds : List D} (r : RepL K H vs ds) : ∀ {fl : List (Str × Nat)}, (∀ p ∈ fl, 1 ≤ p.2 ∧ p.2 ≤ ds.length) → RepF K H (flV (.ref a :: vs) fl) (fl.map fun p => (p.1, ds.getD (p.2 - 1) .non))
  | [], _ => .nil
  | (f, i) :: l, h => by
    obtain ⟨h1, h2⟩ := h (f, i) (List.mem_cons_self ..)
    have h1 : 1 ≤ i := h1
    have h2 : i ≤ ds.length := h2
    refine .cons ?_ (repF_fl r fun p hp => h p (List.mem_cons_of_mem _ hp))
    obtain ⟨j, rfl⟩ : ∃ j, i = j + 1 := ⟨i - 1, by omega⟩
    have hj : ds[j]? = some (ds.getD j .non) := by rw [List.getD_eq_getElem?_getD, List.getElem?_eq_getElem (by omega)]; rfl
    obtain ⟨v, hv, hr⟩ := r.get hj
    show Rep K H ((V.ref a :: vs).getD (j + 1) .non) (ds.getD (j + 1 - 1) .non)
    rw [List.getD_cons_succ, List.getD_eq_getElem?_getD, hv]
    exact hr
theorem ss_raise {c : Str} {C : Addr} {fl : List (Str × Nat)} {n : Nat} {tx : List Nat} (hc : ω.mg c = some (.ref C)) (h : SA K ta TAs) :
    SS K ω (fun _ σ H => tMkO C (spI K C fl n tx) [] ta σ H fun cls d H' => ω.W cls d σ H') (dRaise c fl n tx TAs) := by
  intro y Hf aS Γ σ H De Dn A hT L
  refine h y Hf aS Γ σ H _ _ A hT fun ds Γ1 vs Hf1 H1 A1 e1 k1 r1 ⟨hn, hok, htx, hex⟩ => ?_
  unfold flOk at hok
  simp only [Bool.and_eq_true, List.all_eq_true, decide_eq_true_eq] at hok
  obtain ⟨⟨o1, o2⟩, o3⟩ := hok
  have hl := r1.len
  refine ⟨by omega, fun a ha => ⟨a, vs ++ [], rfl, by rw [List.append_nil]; omega, upd_same, fun i hi => ?_, fun d hd hda => ?_⟩⟩
  · obtain ⟨g1, g2⟩ := o2 i hi
    obtain ⟨j, rfl⟩ : ∃ j, i = j + 1 := ⟨i - 1, by omega⟩
    have hj : ds[j]? = some (ds.getD j .non) := by rw [List.getD_eq_getElem?_getD, List.getElem?_eq_getElem (by omega)]; rfl
    obtain ⟨v, hv, hr⟩ := r1.get hj
    refine ⟨v, ?_, txt_ok hr (txD_mem htx (j + 1) hi)⟩
    rw [List.append_nil, List.getElem?_cons_succ]
    exact hv
  · rw [List.append_nil]
    have hd1 : H1 d = none := by rw [upd_ne hda] at hd; exact hd
    refine ⟨rfl, d, (flV (.ref a :: vs) fl).reverse, by rw [upd_ne hda.symm, upd_same], upd_same, hd1, ?_⟩
    have e : upd (del (upd (upd (upd (upd H1 a (exo a C none)) d (exd d (flV (.ref a :: vs) (fl.take 1)))) a (exo a C (some d))) d (exd d (flV (.ref a :: vs) fl).reverse)) a) d (.xd (flV (.ref a :: vs) fl).reverse) = upd H1 d (.xd (flV (.ref a :: vs) fl).reverse) := by
      funext b
      by_cases hb : b = d
      · rw [hb, upd_same, upd_same]
      · rw [upd_ne hb, upd_ne hb]
        by_cases hba : b = a
        · rw [hba, del_same, ha]
        · rw [del_ne hba, upd_ne hb, upd_ne hba, upd_ne hb, upd_ne hba]
    rw [e]
    have q := A1.layK hd1 (o := .xd (flV (.ref a :: vs) fl).reverse)
    exact L.ex _ aS Γ1 σ _ ⟨c, flD ds fl⟩ C (some d) (A1.lay hd1) hc ⟨_, upd_same, ((repF_fl r1 fun p hp => by have := o1 p hp; omega).rev).mono q.1⟩ hex
end
/-- the reading, the class by its name -/
def tRaise (K : PySem.W.Frag) (mg : Str → Option Value) (ξ : WX) (c : Str) (fl : List (Str × Nat)) (n : Nat) (tx : List Nat) (ta : TA) : TS := fun _ σ H => ∃ C, mg c = some (.ref C) ∧ tMkO C (spI K C fl n tx) [] ta σ H fun cls d H' => ξ cls d σ H'
section
variable {X : Cx} {ξ : WX} {e : Expr} {es : List Expr} {tas : TA} {TAs : DA} {pos p rpos : Pos} {c : Str} {fl : List (Str × Nat)} {n : Nat} {tx : List Nat}
theorem s_raise {j k : Nat} (F : Fi X.prog X.w X.K X.mg X.base j c fl n tx) (hr : Room k X.A) (hj : j + 1 ≤ k) (tk : L2N.Takes X ξ) (ha : PDA X (e :: es) tas TAs) (hc : X.calm = true := by rfl) (hg : Gl X c := by rfl) (hdb : (c == ("__debug__" : Str)) = false := by decide)
    (he : starEach (e :: es) X.env = (false, eval e X.env) :: starEach es X.env := by rfl) (hpl : (backTo pos (starEach es X.env)).any (·.1) = false := by rfl) :
    PDS X ξ (.Raise (some (.Call (.Name c p) (e :: es) [] pos)) none rpos) (tRaise X.K X.mg ξ c fl n tx tas) (dRaise c fl n tx TAs) := by
  obtain ⟨C, fI, fd, ps, g, OX, iC, tI, F1, b⟩ := F.ex
  refine ⟨⟨fun pins s σ H D I ⟨C', g', h⟩ => ?_⟩, fun y Hf aS Γ σ H De Dn A hT L => ⟨C, g, ss_raise (ω := ⟨X.mg, ξ⟩) g ha.s y Hf aS Γ σ H De Dn A hT L⟩⟩
  obtain rfl : C = C' := Value.ref.inj (Option.some.inj (g.symm.trans g'))
  exact (L2N.ps_raise hc tk (pmk_ini OX iC tI F1 (hr.mono hj) b pass0 hg g ha.p hdb he hpl)).run pins s σ H D I h
end

end
section
/-! DL8: the handled exception: defs called with it, isinstance, fields; try .. except X as e. -/
open PySem PySem.Spec PyProof.Rows L2 L2H

/-! ### classes by name -/
/-- the class tables: its fields -/
def flN : Str → List Str := fun c =>
  if c = "BadName" then ["value"] else if c = "BadNumber" then ["value", "low", "high"] else if c = "BadWord" then ["value"] else if c = "Unknown" then ["kind", "name"] else if c = "Twice" then ["kind", "name"]
  else if c = "SameEnds" then ["passage"] else if c = "NotThere" then ["passage", "chamber"] else if c = "InUse" then ["kind", "name"] else if c = "BadText" then ["place"] else if c = "BadWalk" then ["place"]
  else if c = "Overfull" then ["passage", "ropes"] else if c = "TooMany" then ["what", "limit"] else if c = "WrongCount" then ["value"] else if c = "Refused" then ["deed", "cause", "place"] else []
/-- is a c a c'? -/
def subN (c c' : Str) : Bool := decide (c = c') || decide (c' = "TetherError") || decide (c' = "ValueError")
abbrev Tab := List (Str × Addr)
/-- what may be raised -/
structure ExR (K : PySem.W.Frag) (mg : Str → Option Value) (tab : Tab) : Prop where
  mg : ∀ p ∈ tab, mg p.1 = some (.ref p.2)
  ek : ∀ p ∈ tab, ExK K p.2
  fl : ∀ p ∈ tab, ∀ f ∈ flN p.1, PySem.W.findIn K (.ref p.2) f = some none
/-- asked by isinstance: a class of the program, or a built-in one -/
structure ExT (K : PySem.W.Frag) (mg : Str → Option Value) (tab : Tab) (c' : Str) : Prop where
  ex : ∃ cv : Value, (mg c' = some cv ∨ (mg c' = none ∧ bootBuiltins c' = some cv)) ∧ (∃ k : V, RelV k cv ∧ ∀ u, RelV k u → u = cv) ∧ ∀ p ∈ tab, PySem.W.kitOne K (.ref p.2) cv = some (subN p.1 c')
/-- caught by an except clause -/
structure ExM (K : PySem.W.Frag) (mg : Str → Option Value) (tab : Tab) (c' : Str) : Prop where
  ex : ∃ C' : Addr, mg c' = some (.ref C') ∧ ∀ p ∈ tab, PySem.W.exmOne K (.ref p.2) (.ref C') = some (subN p.1 c')

/-! ### the handled exception in a slot -/
section
variable {X : Cx} {xa : Addr} {xd : Option Addr} {xc : Str} {C : Addr} {oe : Obj} {tab : Tab}
def dIsX (xa : Addr) (xd : Option Addr) (xc : Str) (i : Nat) (c' : Str) : DO := fun Γ Φ => match Γ.sl[i]? with
  | some (some (.fro (.exc a d c fs))) => a = xa ∧ d = xd ∧ c = xc ∧ Φ (.fro (.bl (subN xc c'))) Γ
  | _ => False
def dFx (xa : Addr) (xd : Option Addr) (xc : Str) (i : Nat) (f : Str) : DE := fun Γ Φ => match Γ.sl[i]? with
  | some (some (.fro (.exc a d c fs))) => a = xa ∧ d = xd ∧ c = xc ∧ (flN xc).contains f = true ∧ ∃ v, fs.lookup f = some v ∧ Φ v Γ
  | _ => False
theorem repF_look {K : PySem.W.Frag} {H : Hp} {f : Str} {d : D} : ∀ {fs : List (Str × V)} {ds : List (Str × D)}, RepF K H fs ds → ds.lookup f = some d → ∃ v, fs.lookup f = some v ∧ Rep K H v d
  | _, _, .nil, e => by cases e
  | _, _, .cons (k := k) h r, e => by
    rw [List.lookup_cons] at e ⊢
    cases hk : f == k with
    | true =>
      rw [hk] at e
      cases Option.some.inj e
      exact ⟨_, rfl, h⟩
    | false =>
      rw [hk] at e
      exact repF_look r e
def tIsX (K : PySem.W.Frag) (C xa : Addr) (xd : Option Addr) (i : Nat) (k : V) : TE := tCB (rIsX K C xa xd) (tCons (tVar i) (tCons (tC k) tNil))
/-- the reading, the class by its name -/
def tIsN (K : PySem.W.Frag) (mg : Str → Option Value) (C xa : Addr) (xd : Option Addr) (i : Nat) (c' : Str) : TE := fun σ H Q => ∃ k cv, (mg c' = some cv ∨ (mg c' = none ∧ bootBuiltins c' = some cv)) ∧ RelV k cv ∧ (∀ u, RelV k u → u = cv) ∧ tIsX K C xa xd i k σ H Q
theorem so_isX {K : PySem.W.Frag} {i : Nat} {c' : Str} {cv : Value} {k : V} (hk : ∀ u, RelV k u → u = cv) (hkit : PySem.W.kitOne K (.ref C) cv = some (subN xc c')) : SO K (tIsX K C xa xd i k) (dIsX xa xd xc i c') := by
  intro y Hf aS Γ σ H Φ Q A hT kk
  unfold dIsX at hT
  split at hT
  · rename_i a d c fs e
    obtain ⟨rfl, rfl, rfl, hT⟩ := hT
    obtain ⟨v, hv, hb⟩ := A.slot i _ e
    have hb : Rep K Hf v (.exc a d c fs) := hb
    have hva : v = .ref a := by cases hb <;> rfl
    subst hva
    refine ⟨_, hv, k, cv, _, rfl, hk, hkit, fun dx hd => ?_, kk (.fro (.bl _)) Γ _ Hf H A (Same.refl _) (Keep.refl _ _) (Rep.bl _) trivial hT⟩
    cases hb with
    | exc0 => cases hd
    | exc1 h1 h2 =>
      cases hd
      exact ⟨_, A.co.frz _ _ h1⟩
  · exact hT.elim
theorem o_isX {c' : Str} {pos p0 p1 p2 : Pos} {x : Str} (i : Nat) (T : ExT X.K X.mg tab c') (Z : X.mg "isinstance" = none) (R : ExR X.K X.mg tab) (hp : (xa, oe) ∈ X.pn) (hz : L2N.Zn (.ref C) xd oe) (hf : ∃ vs, oe.data = .fields vs) (ht : (xc, C) ∈ tab)
    (hN : X.N[i]? = some x := by rfl) (hv : Vis X.env.scope x := by first | exact Or.inl rfl | exact Or.inr (Or.inl rfl) | exact Or.inr (Or.inr rfl)) (hd : (x == ("__debug__" : Str)) = false := by decide) (hcd : (x == ("__classdict__" : Str)) = false := by decide)
    (hg2 : Gl X c' := by rfl) (hn2 : c' ≠ "__name__" := by decide) (hd2 : (c' == ("__debug__" : Str)) = false := by decide) (hg : Gl X "isinstance" := by rfl)
    (hs : starEach [Expr.Name x p1, .Name c' p2] X.env = (false, eval (.Name x p1) X.env) :: starEach [.Name c' p2] X.env := by rfl)
    (hs2 : starEach [Expr.Name c' p2] X.env = (false, eval (.Name c' p2) X.env) :: starEach [] X.env := by rfl) (hpl : (backTo pos (starEach [Expr.Name c' p2] X.env)).any (·.1) = false := by rfl) :
    PDO X (.Call (.Name "isinstance" p0) [.Name x p1, .Name c' p2] [] pos) (tIsN X.K X.mg C xa xd i c') (dIsX xa xd xc i c') := by
  refine ⟨⟨fun pins s σ H Q I h => ?_⟩, fun y Hf aS Γ σ H Φ Q A hT kk => ?_⟩
  · obtain ⟨k, cv, hcv, rk, hk, h⟩ := h
    have pc : PE X (.Name c' p2) (tC k) := by
      rcases hcv with h | ⟨h1, h2⟩
      · exact pe_glob hg2 h rk hd2
      · exact pe_bltn hg2 h1 h2 rk hn2 hd2
    exact (pe_callB (call_isX (R.ek _ ht) hp hz hf) hg Z (by decide +kernel) (pa_cons (pv i hN hv hd hcd) (pa_cons pc pa_nil hs2) hs) (by decide) (by decide) hs hpl).run pins s σ H Q I h
  · obtain ⟨cv, hcv, ⟨k, rk, hk⟩, hkit⟩ := T.ex
    exact ⟨k, cv, hcv, rk, hk, so_isX hk (hkit _ ht) y Hf aS Γ σ H Φ Q A hT kk⟩
/-- e.f -/
def tFn (K : PySem.W.Frag) (C xa : Addr) (xd : Option Addr) (i : Nat) (f : Str) : TE := fun σ H Q => ∃ d, xd = some d ∧ PySem.W.findIn K (.ref C) f = some none ∧ tFx xa d f (tVar i) σ H Q
theorem e_fx {f x : Str} {pos p1 : Pos} (i : Nat) (R : ExR X.K X.mg tab) (hp : (xa, oe) ∈ X.pn) (hz : L2N.Zn (.ref C) xd oe) (hf : ∃ vs, oe.data = .fields vs) (ht : (xc, C) ∈ tab)
    (hN : X.N[i]? = some x := by rfl) (hv : Vis X.env.scope x := by first | exact Or.inl rfl | exact Or.inr (Or.inl rfl) | exact Or.inr (Or.inr rfl)) (hd : (x == ("__debug__" : Str)) = false := by decide) (hcd : (x == ("__classdict__" : Str)) = false := by decide)
    (hb : attributeBase (.Name x p1) f X.env (eval (.Name x p1) X.env) = eval (.Name x p1) X.env := by rfl) : PDE X (.Attribute (.Name x p1) f pos) (tFn X.K C xa xd i f) (dFx xa xd xc i f) := by
  refine ⟨⟨fun pins s σ H Q I ⟨d, e, hno, h⟩ => ?_⟩, fun y Hf aS Γ σ H Φ Q A hT kk => ?_⟩
  · subst e
    exact (pe_fx (R.ek _ ht) hno hp hz hf (pv i hN hv hd hcd) hb).run pins s σ H Q I h
  · unfold dFx at hT
    split at hT
    · rename_i a d c fs e
      obtain ⟨rfl, rfl, rfl, hfl, w, hl, hT⟩ := hT
      obtain ⟨v, hv, hb⟩ := A.slot i _ e
      have hb : Rep X.K Hf v (.exc a d c fs) := hb
      cases hb with
      | exc0 => cases hl
      | @exc1 _ d _ vfs _ h1 h2 =>
        obtain ⟨u, hu, hr⟩ := repF_look h2 hl
        exact ⟨d, rfl, R.fl _ ht f (by simpa using hfl), _, hv, rfl, vfs, u, A.co.frz _ _ h1, hu, kk w Γ u Hf H A (Same.refl _) (Keep.refl _ _) hr hT⟩
    · exact hT.elim
end

/-! ### defs called with the handled exception -/
abbrev MH := Addr → Option Addr → Str → List D → (B → Prop) → Prop
def spH (K : PySem.W.Frag) (tab : Tab) (m : MH) (a : Addr) (cls : Value) (d : Option Addr) : Sp := fun vs H Q _ => ∃ c C Hf ds, cls = .ref C ∧ (c, C) ∈ tab ∧ Same Hf H ∧ RepL K Hf vs ds ∧
  m a d c ds fun r => ∀ v H' Hf', Co ⟨H, Hf, none⟩ Hf' none none H' → RAt K ⟨H, Hf, none⟩ Hf' none H' v r → Q v H'
structure FnP (P : Program) (w : World) (K : PySem.W.Frag) (mg : Str → Option Value) (base : Heap) (k : Nat) (f : Addr) (fd : FuncData) (ps : List Str) (sp : Addr → Value → Option Addr → Sp) : Prop where
  len : ∀ a cls d vs H Q E, sp a cls d vs H Q E → vs.length = ps.length
  run : ∀ (A : Around) (outer : List Env) (s : Shared) (H : Hp) (args : Args) (us : List Value) (vs : List V) (Q : VK) (E : XK) (p : Addr × Obj) (cls : Value) (d : Option Addr), RoomH k A → Hot1 A p → L2N.Zn cls d p.2 → (∃ v, p.2.data = .fields v) → PinOk outer H s p → Env0 P w K mg base A outer s H →
    BindsTo s fd args (ps.zip us) → Vals vs us → sp p.1 cls d vs H Q E → codeAny (model P w) A (.call (.ref f) args) (CR CX0 outer P w H s Q E) s
structure Fh (P : Program) (w : World) (K : PySem.W.Frag) (mg : Str → Option Value) (base : Heap) (tab : Tab) (k : Nat) (x : Str) (m : MH) : Prop where
  ex : ∃ f fd ps, FnP P w K mg base k f fd ps (spH K tab m) ∧ mg x = some (.ref f) ∧ PySem.W.keepIn K (.ref f) = true ∧ Binds K fd ps []
  mono : ∀ a d c ds k k', (∀ b, k b → k' b) → m a d c ds k → m a d c ds k'
section
variable {P : Program} {w : World} {K : PySem.W.Frag} {mg : Str → Option Value} {base : Heap} {tab : Tab}
theorem okH {x : Str} {st : Stmt} {N ps : List Str} {k : Nat} {m : MH} (F : Df K mg x st ps) (S : FnScope N ps (defScope st)) (hl : ∀ a d c ds κ, m a d c ds κ → ds.length = ps.length)
    (mono : ∀ a d c ds k k', (∀ b, k b → k' b) → m a d c ds k → m a d c ds k')
    (hb : ∀ (f : Addr) (cdv : Value) (A : Around) (outer : List Env) (s : Shared) (H : Hp) (E : XK) (xa : Addr) (oe : Obj) (xd : Option Addr) (xc : Str) (C : Addr), Hot1 A (xa, oe) → L2N.Zn (.ref C) xd oe → (∃ v, oe.data = .fields v) → (xc, C) ∈ tab →
      RoomH k (A.deeper (envOfC x (defScope st) s.heap.objs.size f cdv)) →
      ∃ t T, PDSs (cxH CX0 P w K mg base N x (defScope st) f cdv A outer s H E (xa, oe)) W0 (defBody st) t T ∧
        ∀ ds κ, m xa xd xc ds κ → T ⟨fun _ => κ (.fro .non), rtP κ, fun _ => False, fun _ => False, fun _ _ => False⟩ ⟨startD N ds, none⟩) : Fh P w K mg base tab (k + 1) x m := by
  obtain ⟨f, fd, FF, g, b⟩ := F.ex
  have kp := FF.kp
  obtain ⟨oc, od, kV, doc, pm, an, cdv, ct, osl, rfl, lk, hcd⟩ := FF.ex
  have len : ∀ (a : Addr) (cls : Value) (d : Option Addr) (vs : List V) (H : Hp) (Q : VK) (E : XK), spH K tab m a cls d vs H Q E → vs.length = ps.length := fun a cls d vs H Q E h => by
    obtain ⟨c, C, Hf, ds, _, _, _, r, hm⟩ := h
    rw [r.len]
    exact hl _ _ _ _ _ hm
  refine ⟨⟨f, _, ps, ⟨len, fun A outer s H args us vs Q E p cls d hr hot hz hf hpin e0 hbd r hsp => ?_⟩, g, kp, b⟩, mono⟩
  have hl2 := len _ _ _ _ _ _ _ hsp
  obtain ⟨c, C, Hf, ds, rfl, htab, he, rr, hm⟩ := hsp
  obtain ⟨xa, oe⟩ := p
  have KX : K.In s.heap := e0.mod.kin.keeps fun b o e => (e0.bs b o e).1
  have lim : s.heap.NoLimit := e0.mod.nolimit.keeps fun b o e => (e0.bs b o e).1
  have hkind : ∀ y ∈ ps.zip us, (defScope st).names.lookup y.1 = some .local ∨ ((defScope st).names.lookup y.1 = some .cell ∧ ((cellsFrom (s.heap.objs.size + 1) (defScope st).names []).lookup y.1).isSome = true) := fun ⟨n, v⟩ hy =>
    (S.par n (List.of_mem_zip hy).1).imp id fun q => ⟨q, PySem.W.cellsFrom_some _ _ _ (.inl q)⟩
  refine codeAny_call_function hr.depth (KX _ _ lk) rfl S.co S.gen rfl (PySem.W.codeRec_of KX hcd) (hbd _ _ _ _ (wpAny_newFunctionEnv_cells S.kind hkind fun env hev s1 x1 => ?_))
  subst hev
  refine ⟨lim.keeps x1.toInCall.keep, codeAny_func ?_⟩
  obtain ⟨t, T, pd, q⟩ := hb f cdv A outer s H E xa oe d c C hot hz hf htab (hr.deeper _)
  have I := inv_startH (CX := CX0) (E := E) S hpin e0 hl2 r x1
  have hq := pd.s ⟨H, Hf, none⟩ Hf none ⟨startD N ds, none⟩ (start N vs) H ⟨fun _ => _, rtP _, fun _ => False, fun _ => False, fun _ _ => False⟩ { nx := fun _ H' => Q .non H', rt := Q } (at_start he rr) (q ds _ hm) ⟨fun Hf' aS Γ σ H' A' z => z .non H' Hf' (A'.co.noS rfl) Rep.non, fun Hf' aS S' H' v r' c b' z => ?_, fun _ _ _ _ _ _ z => z, fun _ _ _ _ _ _ z => z, fun _ _ _ _ _ _ _ _ _ _ _ z => z⟩
  · refine wpAny_mono (pd.p.run [] s1 (start N vs) H _ I hq) (fun fl s' hs => ?_) fun e s' hs => hs
    have fin : ∀ {σ' : L2.St} {H' : Hp} {v : V} {u : Value}, Inv (cxH CX0 P w K mg base N x (defScope st) f cdv A outer s H E (xa, oe)) [] σ' H' s' → RelV v u → Q v H' → CE outer P w H s Q u s' := fun J rv q => ⟨_, _, J.os, J.bare, J.base, J.hok, rv, q⟩
    cases fl with
    | ret u => obtain ⟨v, σ', H', J, rv, q⟩ := hs; exact fin J rv q
    | next => obtain ⟨σ', H', J, q⟩ := hs; exact fin (v := V.non) (u := Value.none) J rfl q
    | brk => obtain ⟨_, _, _, q⟩ := hs; exact False.elim q
    | cont => obtain ⟨_, _, _, q⟩ := hs; exact False.elim q
  · cases r' with
    | sto => exact z.elim
    | lk d => exact z.2 v H' Hf' (c.noS rfl) (show Rep K Hf' v d from lk_sca b' z.1)
    | fro d => exact z v H' Hf' (c.noS rfl) b'
    | own o =>
      obtain ⟨a, e1, h1, h2, h3, h4⟩ := b'
      exact z v H' Hf' (c.noS rfl) ⟨a, e1, h1, h2, h3, fun e => nomatch e⟩
end
section
variable {X : Cx} {xa C : Addr} {xd : Option Addr} {xc : Str} {oe : Obj} {tab : Tab} {e : Expr} {es : List Expr} {tas : TA} {TAs : DA} {pos p : Pos} {x : Str}
def tCallP (sp : Sp) (t : TA) : TE := fun σ H Q => t σ H fun vs H1 => sp vs H1 Q E0
def dCallH (m : MH) (xa : Addr) (xd : Option Addr) (xc : Str) (T : DA) : DO := fun Γ Φ => T Γ fun ds Γ1 => m xa xd xc ds fun b => Φ b Γ1
theorem o_callH {j k : Nat} {m : MH} (F : Fh X.prog X.w X.K X.mg X.base tab j x m) (hr : RoomH k X.A) (hj : j ≤ k) (hot : Hot1 X.A (xa, oe)) (hp : (xa, oe) ∈ X.pn) (hz : L2N.Zn (.ref C) xd oe) (hf : ∃ vs, oe.data = .fields vs) (ht : (xc, C) ∈ tab) (ha : PDA X (e :: es) tas TAs) (hg : Gl X x := by rfl)
    (hdb : (x == ("__debug__" : Str)) = false := by decide) (he : starEach (e :: es) X.env = (false, eval e X.env) :: starEach es X.env := by rfl) (hpl : (backTo pos (starEach es X.env)).any (·.1) = false := by rfl) :
    PDO X (.Call (.Name x p) (e :: es) [] pos) (tCallP (spH X.K tab m xa (.ref C) xd) tas) (dCallH m xa xd xc TAs) := by
  obtain ⟨f, fd, ps, G, g, kp, b⟩ := F.ex
  refine ⟨⟨fun pins s σ H Q I h => ?_⟩, fun y Hf aS Γ σ H Φ Q A hT k => ?_⟩
  · refine wpAny_Call_Name_kw (ld_glob I hg g (PySem.W.callWith_K (h₀ := X.base) I.ok.mod.kin kp (thn (ha.p.run pos pins s σ H _ I h) fun us s1 ⟨vs, H1, I1, r, q⟩ => ⟨I1.kIn, ?_⟩) he hpl) hdb)
    have hl : us.length = ps.length := by rw [← r.length]; exact G.len _ _ _ _ _ _ _ q
    have bd := b s1 us I1.kIn (by rw [List.append_nil]; exact hl)
    rw [List.append_nil] at bd
    have P1 := I1.pin (xa, oe) (List.mem_append_left _ hp)
    have hpin : PinOk X.stack H1 s1 (xa, oe) := ⟨P1.1, P1.2.1, fun hm => (List.mem_cons.mp (I1.stkSub xa hm)).elim P1.2.2.1 P1.2.2.2.1, P1.2.2.2.2⟩
    show wpAny _ _ (call (.ref f) us) _ _ _
    refine wpAny_call (codeAny_mono (G.run X.A X.stack s1 H1 ⟨us, []⟩ us vs Q E0 (xa, oe) _ _ ⟨by have := hr.dp; omega, by have := hr.un; omega⟩ hot hz hf hpin I1.env0 bd r q) fun r s' hq => ?_)
    rcases r with er | fl
    · exact hq.elim
    cases fl with
    | ret u => exact I1.after hq
    | _ => exact False.elim hq
  · refine ha.s y Hf aS Γ σ H _ _ A hT fun ds Γ1 vs Hf1 H1 A1 e1 k1 r1 hT1 => ?_
    refine ⟨xc, C, Hf1, ds, rfl, ht, A1.co.frz, r1, F.mono _ _ _ _ _ _ (fun b hb v H' Hf' c' b' => ?_) hT1⟩
    have c2 := A1.co.put c'
    have q := back_b A1 c' b'
    exact k b Γ1 v Hf' H' (A1.behind c2) (e1.trans c'.mon) (k1.trans c2.keep) q.1 q.2 hb
end

/-! ### try: .. except X as e: .. -/
def dTry (xcs : List Str) (i : Nat) (c' : Str) (Tb : DS) (Ts : Addr → Option Addr → Str → DS) : DS := fun De Γ =>
  Tb { nx := De.nx, rt := De.rt, bk := De.bk, ct := De.ct, ex := fun x Γ1 => xcs.contains x.c = true ∧ (subN x.c c' = true → ∀ a d, Ts a d x.c { nx := fun Γ2 => De.nx (Γ2.drop i), rt := De.rt, bk := fun Γ2 => De.bk (Γ2.drop i), ct := fun Γ2 => De.ct (Γ2.drop i), ex := fun _ _ => False } (Γ1.set i (.fro (.exc a d x.c x.fs)))) ∧
    (subN x.c c' = false → De.ex x Γ1) } Γ
theorem Sl.dropN {K : PySem.W.Frag} {y : Yn} {Hf : Hp} {aS : Option Addr} {sl : List (Option B)} {σ : L2.St} {H : Hp} (A : Sl K y Hf aS sl σ H) (i : Nat) : Sl K y Hf aS (sl.set i none) (σ.set i none) H := by
  refine ⟨by rw [List.length_set, List.length_set]; exact A.len, fun j b e => ?_, fun j k a oj ok e1 e2 h1 h2 => ?_⟩
  · rcases get_set_some e with ⟨_, z⟩ | ⟨n, z⟩
    · cases z
    · rw [List.getElem?_set_ne n]
      exact A.slot j b z
  · rcases get_set_some e1 with ⟨_, z⟩ | ⟨n1, z1⟩
    · cases z
    · rcases get_set_some e2 with ⟨_, z⟩ | ⟨n2, z2⟩
      · cases z
      · rw [List.getElem?_set_ne n1] at h1
        rw [List.getElem?_set_ne n2] at h2
        exact A.sep j k a oj ok z1 z2 h1 h2
theorem At.dropN {K : PySem.W.Frag} {y : Yn} {Hf : Hp} {aS : Option Addr} {Γ : Ev} {σ : L2.St} {H : Hp} (A : At K y Hf aS Γ σ H) (i : Nat) : At K y Hf aS (Γ.drop i) (σ.set i none) H := by
  by_cases hi : i < Γ.sl.length
  · have e1 : (Γ.drop i).all = Γ.all.set i none := (List.set_append_left i _ hi).symm
    have e2 : (Γ.drop i).vals (σ.set i none) = (Γ.vals σ).set i none := (List.set_append_left i _ (by rw [A.len]; exact hi)).symm
    refine ⟨A.co, ?_⟩
    rw [e1, e2]
    exact A.sl.dropN i
  · have e1 : Γ.drop i = Γ := by
      show @Ev.mk (Γ.sl.set i none) Γ.S Γ.hp = Γ
      rw [List.set_eq_of_length_le (by omega)]
    have e2 : σ.set i none = σ := List.set_eq_of_length_le (by rw [A.len]; omega)
    rw [e1, e2]
    exact A
section
variable {X : Cx} {ξ : WX} {tab : Tab} {xcs : List Str} {x n : Str} {i : Nat} {body suite : List Stmt} {b₀ : Stmt} {np pos pos' : Pos} {tb : WX → TS} {Tb : DS} {ts : Addr → Addr → Str → Option Addr → TS} {Ts : Addr → Option Addr → Str → DS}
/-- the suite's reading, for the classes of the table -/
def tSui (tab : Tab) (ts : Addr → Addr → Str → Option Addr → TS) : Addr → Value → Option Addr → TS := fun a cls d D σ H => ∃ c C, cls = .ref C ∧ (c, C) ∈ tab ∧ ts a C c d D σ H
def tTry (K : PySem.W.Frag) (mg : Str → Option Value) (ξ : WX) (tab : Tab) (i : Nat) (x : Str) (tb : WX → TS) (ts : Addr → Addr → Str → Option Addr → TS) : TS := fun D σ H => ∃ C' : Addr, mg x = some (.ref C') ∧ tb (wAs K (.ref C') i (tSui tab ts) ξ D) D σ H
theorem s_try (R : ExR X.K X.mg tab) (hx : ∀ c, xcs.contains c = true → ∃ C, (c, C) ∈ tab) (M : ExM X.K X.mg tab x) (tk : L2N.Takes X ξ) (hs : X.stack = X.env :: X.outer) (hf : X.env.frame = some X.env.locals) (hN : X.N.Nodup)
    (hb : ∀ (W : WX) (pn : List (Addr × Obj)) (xe : Value → Shared → Prop), L2N.Takes (X.tr pn xe) W → PassesOwn (model X.prog X.w) X.A X.env xe → PDSs (X.tr pn xe) W body (tb W) Tb)
    (hsu : ∀ (a : Addr) (oe : Obj) (C : Addr) (c : Str) (d : Option Addr) (pn : List (Addr × Obj)), (c, C) ∈ tab → L2N.Zn (.ref C) d oe → (∃ vs, oe.data = .fields vs) → PDSs (X.suite a ((a, oe) :: pn)) W0 (b₀ :: suite) (ts a C c d) (Ts a d c))
    (hi : X.N[i]? = some n := by rfl) (hln : X.env.kindOf n = some .local := by rfl) (hg : Gl X x := by rfl) (hdb : (x == ("__debug__" : Str)) = false := by decide) :
    PDS X ξ (.Try body [.ExceptHandler (some (.Name x np)) (some n) (b₀ :: suite) pos'] [] [] pos) (tTry X.K X.mg ξ tab i x tb ts) (dTry xcs i x Tb Ts) := by
  have hP : ∀ (a : Addr) (oe : Obj) (cls : Value) (d : Option Addr) (pn : List (Addr × Obj)), L2N.Zn cls d oe → (∃ vs, oe.data = .fields vs) → PSs (X.suite a ((a, oe) :: pn)) (b₀ :: suite) (tSui tab ts a cls d) := fun a oe cls d pn hz hv => by
    refine ⟨fun pins s σ H D I ⟨c, C, e, ht, h⟩ => ?_⟩
    subst e
    exact (hsu a oe C c d pn ht hz hv).p.run pins s σ H D I h
  refine ⟨⟨fun pins s σ H D I ⟨C', hc', h⟩ => ?_⟩, fun y Hf aS Γ σ H De Dn A hT L => ?_⟩
  · exact (L2N.ps_try_as hs hf hN hi hln ⟨hg, hdb, .inl hc'⟩ tk (fun W pn xe t po => (hb W pn xe t po).p) hP).run pins s σ H D I h
  · obtain ⟨C', hc', hm⟩ := M.ex
    refine ⟨C', hc', ?_⟩
    -- the body's sense, in a context where it may be raised
    have hbs : ∀ W : WX, SS X.K ⟨X.mg, W⟩ (tb W) Tb := fun W => by
      refine (hb W [] (fun e s1 => wpAny (model X.prog X.w) X.A (noteFrame e X.env) (fun _ s2 => wpAny (model X.prog X.w) X.A (setFlight e none) (fun _ _ => True) (fun _ _ => True) s2) (fun _ _ => True) s1) (fun u s' xx => ?_) PassesOwn.looking).s
      obtain ⟨a, B, sI, pins', σ', H', cls, d, rfl, J', nb, up, sky, na, os, ag, w⟩ := xx
      have hfr : X.A.frames = some (X.env :: X.outer) := by rw [← hs]; exact J'.ok.frames
      have sky' : Sky B (X.env :: X.outer) a (L2N.Zn cls d) X.env.locals s'.heap := by rw [← hs]; exact sky
      exact L2N.Sky.land L2N.Zn.steady hfr hf sky' fun _ _ _ => trivial
    refine hbs _ y Hf aS Γ σ H _ _ A hT ⟨L.nx, L.rt, L.bk, L.ct, fun Hf1 aS1 Γ1 σ1 H1 xx C dd A1 m1 d1 hex => ?_⟩
    obtain ⟨e1, e2, e3⟩ := hex
    obtain ⟨C1, ht⟩ := hx xx.c e1
    have hC1 : X.mg xx.c = some (.ref C1) := R.mg _ ht
    have hC : X.mg xx.c = some (.ref C) := m1
    rw [hC1] at hC
    obtain rfl : C1 = C := Value.ref.inj (Option.some.inj hC)
    refine ⟨subN xx.c x, hm _ ht, fun hb1 a ha => ⟨xx.c, C1, rfl, ht, ?_⟩, fun hb0 => L.ex Hf1 aS1 Γ1 σ1 H1 xx C1 dd A1 m1 d1 (e3 hb0)⟩
    have hr : Rep X.K Hf1 (.ref a) (.exc a dd xx.c xx.fs) := by
      cases dd with
      | none =>
        have d1 : xx.fs = [] := d1
        rw [d1]
        exact .exc0
      | some d =>
        obtain ⟨vfs, h1, h2⟩ := d1
        exact .exc1 h1 h2
    obtain ⟨oe, hz, hv⟩ : ∃ oe : Obj, L2N.Zn (.ref C1) dd oe ∧ ∃ vs, oe.data = .fields vs :=
      ⟨{ cls := .ref C1, dict := dd, data := .fields #[.none, .none, .none] }, ⟨rfl, rfl, fun vs e => by cases e; rfl⟩, _, rfl⟩
    refine (hsu a oe C1 xx.c dd [] ht hz hv).s y Hf1 aS1 _ _ H1 _ _ (A1.store (i := i) (r := .fro (.exc a dd xx.c xx.fs)) hr trivial) (e2 hb1 a dd) ⟨fun Hf2 aS2 Γ2 σ2 H2 A2 q => L.nx Hf2 aS2 _ _ H2 (A2.dropN i) q, L.rt, fun Hf2 aS2 Γ2 σ2 H2 A2 q => L.bk Hf2 aS2 _ _ H2 (A2.dropN i) q, fun Hf2 aS2 Γ2 σ2 H2 A2 q => L.ct Hf2 aS2 _ _ H2 (A2.dropN i) q, fun _ _ _ _ _ _ _ _ _ _ _ z => z⟩
end

end
section
/-! EX2: what the written part says of an error class, by one look. -/
open PySem PySem.Spec PyProof.Rows L2 NdefX
def shpB (K : PySem.W.Frag) (C : Addr) : Bool := match K.lookup C with
  | some ⟨.type t, _, .cls cd, sl⟩ => t == "type" && cd.hasDict && !cd.hasDel && (match cd.mro, sl.toList with
    | .ref C' :: bm, [_, _, _, _, some (.builtin n), _] => C' == C && n == "ValueError.__new__" && PySem.HandSPX.refsVE bm
    | _, _ => false)
  | _ => false
theorem shpB_ok {K : PySem.W.Frag} {C : Addr} (h : shpB K C = true) : ∃ nm q N bs bm sn sub ab col dd k0 k1 k2 k3 k5, K.lookup C = some (excClassObj nm q C N bs bm true sn sub ab col dd k0 k1 k2 k3 k5 "ValueError.__new__") ∧ PySem.HandSPX.refsVE bm = true := by
  unfold shpB at h
  split at h
  · rename_i t dd cd sl ho
    simp only [Bool.and_eq_true, Bool.not_eq_true', beq_iff_eq] at h
    obtain ⟨⟨⟨rfl, h1⟩, h2⟩, h3⟩ := h
    split at h3
    · rename_i C' bm k0 k1 k2 k3 n k5 hm hs
      simp only [Bool.and_eq_true, beq_iff_eq] at h3
      obtain ⟨⟨rfl, rfl⟩, h5⟩ := h3
      obtain ⟨nm, bs, mro, ns, qn, hd, sn, sub, ab, col, del⟩ := cd
      dsimp only at hm h1 h2
      subst hm h1 h2
      have hsl : sl = #[k0, k1, k2, k3, some (.builtin "ValueError.__new__"), k5] := by
        obtain ⟨l⟩ := sl
        simp only at hs
        rw [hs]
      subst hsl
      exact ⟨nm, qn, ns, bs, bm, sn, sub, ab, col, dd, k0, k1, k2, k3, k5, ho, h5⟩
    · cases h3
  · cases h
open PySem.W in
def exB (K : Frag) (C : Addr) (fs : List Str) : Bool :=
  ((clsIn K C).isSome && decide (findIn K (.ref C) "__getattribute__" = some (some (.builtin "BaseException.__getattribute__"))) && decide (findIn K (.ref C) "__getattr__" = some none) && decide (subIn K (.ref C) (.type "BaseException") = some true) && hasDictIn K C
    && decide (findIn K (.ref C) "__class__" = some (some (.builtin "object.__class__"))) && decide (specialIn K (.builtin "object.__class__") "__get__" = some (some (.builtin "getset_descriptor.__get__"))) && decide (takesIn K (.builtin "object.__class__") = some true) && decide (mroIn K C (.type "object") = some true))
  && (decide (findIn K (.ref C) "__setattr__" = some (some (.builtin "object.__setattr__"))) && decide (typeIn K (.ref C) = some (.type "type")) && keepIn K (.ref C) && shpB K C)
  && (decide (mroIn K C (.ref C) = some true) && decide (ks_superIn K C C "__init__" = some (some (.builtin "ValueError.__init__"))) && decide (subIn K (.ref C) (.type "ValueError") = some true) && decide (nsIn K cStatics "thirdparty.any" = some none))
  && fs.all fun f => decide (findIn K (.ref C) f = some none)
structure ExB (K : PySem.W.Frag) (C : Addr) (fs : List Str) : Prop where
  ek : ExK K C
  ox : OexC K C
  sub : PySem.W.mroIn K C (.ref C) = some true
  fnd : PySem.W.ks_superIn K C C "__init__" = some (some (.builtin "ValueError.__init__"))
  ve : PySem.W.subIn K (.ref C) (.type "ValueError") = some true
  opq : PySem.W.nsIn K cStatics "thirdparty.any" = some none
  fl : ∀ f ∈ fs, PySem.W.findIn K (.ref C) f = some none
theorem exB_ok {K : PySem.W.Frag} {C : Addr} {fs : List Str} (h : exB K C fs = true) : ExB K C fs := by
  unfold exB at h
  simp only [Bool.and_eq_true, decide_eq_true_eq, List.all_eq_true] at h
  obtain ⟨⟨⟨⟨⟨⟨⟨⟨⟨⟨⟨a1, a2⟩, a3⟩, a4⟩, a5⟩, a6⟩, a7⟩, a8⟩, a9⟩, ⟨⟨b1, b2⟩, b3⟩, b4⟩, ⟨⟨c1, c2⟩, c3⟩, c4⟩, d⟩ := h
  exact ⟨⟨a1, a2, a3, a4, a5, a6, a7, a8, a9⟩, ⟨shpB_ok b4, b1, a4, b2, b3⟩, c1, c2, c3, c4, d⟩
/-- of its __init__, at f, its code at c, its cell at cc -/
def iniB (P : Program) (K : PySem.W.Frag) (f C c cc : Addr) (q : Str) : Bool := PySem.W.codeIn K (.ref c) q && decide (PySem.W.typeIn K (.ref f) = some (.type "function")) && (match K.lookup cc with | some ⟨_, _, .cell (some (.ref D)), _⟩ => D == C | _ => false)
  && (match K.lookup c with | some ⟨_, _, .fields vs, _⟩ => (match (vs[2]? : Option Value) with | some (.str file _) => (P.main.file : Str) == file | _ => false) | _ => false) && !(P.main.scope.names.lookup ("super" : Str)).isSome
structure IniB (P : Program) (K : PySem.W.Frag) (f C c cc : Addr) (q : Str) : Prop where
  cd : PySem.W.codeIn K (.ref c) q = true
  ty : PySem.W.typeIn K (.ref f) = some (.type "function")
  cl : ∃ ccl cld csl, K.lookup cc = some ⟨ccl, cld, .cell (some (.ref C)), csl⟩
  co : ∃ ccl cdd vs ccs file tf, K.lookup c = some ⟨ccl, cdd, .fields vs, ccs⟩ ∧ vs[2]? = some (.str file tf) ∧ ((P.main.file : Str) == file) = true
  top : (P.main.scope.names.lookup ("super" : Str)).isSome = false
theorem iniB_ok {P : Program} {K : PySem.W.Frag} {f C c cc : Addr} {q : Str} (h : iniB P K f C c cc q = true) : IniB P K f C c cc q := by
  unfold iniB at h
  simp only [Bool.and_eq_true, decide_eq_true_eq, Bool.not_eq_true'] at h
  obtain ⟨⟨⟨⟨h1, h2⟩, h3⟩, h4⟩, h5⟩ := h
  refine ⟨h1, h2, ?_, ?_, h5⟩
  · split at h3
    · rename_i o
      have := eq_of_beq h3
      subst this
      exact ⟨_, _, _, o⟩
    · cases h3
  · split at h4
    · rename_i o
      split at h4
      · rename_i o2
        exact ⟨_, _, _, _, _, _, o, o2, h4⟩
      · cases h4
    · cases h4
/-- an own class that is asked by isinstance -/
def kitB (K : PySem.W.Frag) (tab : Tab) (c' : Str) (cv : Value) : Bool := tab.all fun p => decide (PySem.W.kitOne K (.ref p.2) cv = some (subN p.1 c'))
def exmB (K : PySem.W.Frag) (tab : Tab) (c' : Str) (C' : Addr) : Bool := tab.all fun p => decide (PySem.W.exmOne K (.ref p.2) (.ref C') = some (subN p.1 c'))
theorem exT_own {K : PySem.W.Frag} {mg : Str → Option Value} {tab : Tab} {c' : Str} {C' : Addr} (g : mg c' = some (.ref C')) (h : kitB K tab c' (.ref C') = true) : ExT K mg tab c' :=
  ⟨.ref C', .inl g, ⟨.ref C', rfl, fun u e => e⟩, fun p hp => of_decide_eq_true (List.all_eq_true.mp h p hp)⟩
theorem exT_blt {K : PySem.W.Frag} {mg : Str → Option Value} {tab : Tab} {c' : String} (g : mg c' = none) (b : bootBuiltins c' = some (.type c')) (h : kitB K tab c' (.type c') = true) : ExT K mg tab c' :=
  ⟨.type c', .inr ⟨g, b⟩, ⟨.ty c', rfl, fun u e => e⟩, fun p hp => of_decide_eq_true (List.all_eq_true.mp h p hp)⟩
theorem exM_own {K : PySem.W.Frag} {mg : Str → Option Value} {tab : Tab} {c' : Str} {C' : Addr} (g : mg c' = some (.ref C')) (h : exmB K tab c' C' = true) : ExM K mg tab c' :=
  ⟨C', g, fun p hp => of_decide_eq_true (List.all_eq_true.mp h p hp)⟩
/-- the facts of a class with an own __init__ over the text st -/
theorem iniK_of {P : Program} {K : PySem.W.Frag} {mg : Str → Option Value} {f C c cc : Addr} {q : Str} {st : Stmt} {fs ps : List Str} {oc : Value} {od an : Option Addr} {osl : Array (Option Value)} {dV kV doc pm ctv : Value} {ar : Arg}
    (lk : K.lookup f = some ⟨oc, od, .func (PySem.W.fnX "__init__" q (defArgs st) (defBody st) (defScope st) [(("__class__" : Str), cc)] dV kV doc pm an (.ref c) ctv), osl⟩) (E : ExB K C fs) (B : IniB P K f C c cc q) (su : mg "super" = none)
    (h1 : ((defArgs st).posonlyargs ++ (defArgs st).args).head? = some ar) (h2 : ps[0]? = some ar.arg) (h3 : (defScope st).names.lookup ar.arg = some .local) (h4 : (defScope st).names.lookup ("super" : Str) = some .globalImplicit) :
    IniK P K mg f C ⟨"__init__", q, defArgs st, defBody st, defScope st, [(("__class__" : Str), cc)], c⟩ ps :=
  ⟨⟨oc, od, osl, doc, pm, an, dV, kV, ctv, lk⟩, B.cd, let ⟨a, b, d, h⟩ := B.cl; ⟨cc, a, b, d, rfl, h⟩, B.co, ⟨ar, h1, h2, h3⟩, su, B.top, h4, E.ek.cl, E.sub, E.fnd, E.ve, E.opq⟩
theorem fi_of {P : Program} {w : World} {K : PySem.W.Frag} {mg : Str → Option Value} {base : Heap} {k : Nat} {c : Str} {fl : List (Str × Nat)} {n : Nat} {tx : List Nat} {C fI cI cc : Addr} {q : Str} {fs ps : List Str} (g : mg c = some (.ref C)) (E : ExB K C fs) (B : IniB P K fI C cI cc q) (i : PySem.W.findIn K (.ref C) "__init__" = some (some (.ref fI)))
    {fd : FuncData} (F : FnOk P w K mg base CX0 k fI fd ps (spI K C fl n tx)) (b : Binds K fd ps []) : Fi P w K mg base k c fl n tx := ⟨C, fI, fd, ps, g, E.ox, i, B.ty, F, b⟩
theorem exR_of {K : PySem.W.Frag} {mg : Str → Option Value} {tab : Tab} (h : ∀ p ∈ tab, mg p.1 = some (.ref p.2) ∧ ExB K p.2 (flN p.1)) : ExR K mg tab := ⟨fun p hp => (h p hp).1, fun p hp => (h p hp).2.ek, fun p hp => (h p hp).2.fl⟩
theorem takesN0 {X : Cx} : L2N.Takes X W0 := fun _ _ x => by
  obtain ⟨_, _, _, _, _, _, _, _, _, _, _, _, _, _, _, _, z⟩ := x
  exact z.elim
theorem hot_of {A : Around} {a : Addr} {cls : Value} {d : Option Addr} {oe : Obj} (hz : L2N.Zn cls d oe) (hf : ∃ vs, oe.data = .fields vs) : L2H.Hot1 (A.mark (some (.ref a))) (a, oe) := by
  obtain ⟨vs, hv⟩ := hf
  exact ⟨rfl, vs, hv, hz.2.2 vs hv⟩
theorem hu_hot {k : Nat} {A : Around} (r : L2H.RoomH k A) : A.units + 64 < cLine := by
  have := r.un
  omega
/-- a constant of the module -/
structure Gi (mg : Str → Option Value) (x : Str) (i : Int) : Prop where
  ex : ∃ t, mg x = some (.int i t)
structure Gs (mg : Str → Option Value) (x : Str) (z : Str) : Prop where
  ex : ∃ t, mg x = some (.str z t)
theorem e_gi {X : Cx} {x : Str} {i : Int} {pos : Pos} (G : Gi X.mg x i) (hg : Gl X x := by rfl) (hd : (x == ("__debug__" : Str)) = false := by decide) : PDE X (.Name x pos) (tC (.int i)) (dC (.int i)) := by
  obtain ⟨t, h⟩ := G.ex
  exact e_gl h ⟨t, rfl⟩ (fun _ => .int i) hg hd
theorem e_gs {X : Cx} {x z : Str} {pos : Pos} (G : Gs X.mg x z) (hg : Gl X x := by rfl) (hd : (x == ("__debug__" : Str)) = false := by decide) : PDE X (.Name x pos) (tC (.str z)) (dC (.str z)) := by
  obtain ⟨t, h⟩ := G.ex
  exact e_gl h ⟨t, rfl⟩ (fun _ => .str z) hg hd

end
section
/-! DL9: list.count of flat items. -/
def rCntF (K : PySem.W.Frag) : V → List V → Hp → VK → Prop := fun x xs H Q => ∃ (p : Addr) (ys : List V) (y : V), x = .ref p ∧ xs = [y] ∧ SqL K H p ys ∧ flatV y = true ∧ ys.all flatV = true ∧ Q (.int (ys.countP fun z => eqV z y : Nat)) H
theorem cnt_flat {y : V} : ∀ {ys : List V} {us : List Value}, Vals ys us → ys.all flatV = true → us.countP (eqU y) = ys.countP fun z => eqV z y
  | _, _, .nil, _ => rfl
  | z :: ys, u :: us, .cons r t, f => by
    rw [List.all_cons, Bool.and_eq_true] at f
    rw [List.countP_cons, List.countP_cons, cnt_flat t f.2, eqU_of r f.1]
theorem mt_cntF {X : Cx} : MtR X "list.count" (rCntF X.K) := by
  intro pins s σ H x xs v us Q I rx rxs h
  obtain ⟨p, ys, y, rfl, rfl, hs, fy, fys, q⟩ := h
  cases rx
  obtain ⟨u, rfl, ru⟩ := rxs.one
  obtain ⟨its, rv, ⟨⟨cls, dd, data, sl⟩, n, ho, hc, hdn, hd⟩, hlen⟩ := I.list hs
  dsimp only at hc hd
  subst hc hd
  have ec := cnt_flat (y := y) rv fys
  refine call_meets PySem.F.slot_list_count ⟨_, ho, rfl⟩ PySem.F.entry_list_count (PySem.F.args_list_count_2 _ _) (SeqAt.list_countAt p its.toArray n dd sl u (eqU y))
    ⟨ho, fun z hz => mem_eqAt ru fy rv fys z (by simpa using hz), .int (ys.countP fun z => eqV z y : Nat), H, I.tok _, ⟨s.toks, ?_⟩, q⟩
  rw [← ec]
def dCntL (T U : DE) : DO := fun Γ Φ => T Γ fun d Γ1 => match d with
  | .lst ds => U Γ1 fun e Γ2 => e.sca = true ∧ ds.all D.sca = true ∧ Φ (.fro (.int (ds.countP fun z => eqS z e : Nat))) Γ2
  | _ => False
section
variable {K : PySem.W.Frag} {t u : TE} {T U : DE}
theorem cnt_rep {H H' : Hp} {v : V} {d : D} (h : Rep K H v d) (s : d.sca = true) : ∀ {vs : List V} {ds : List D}, RepL K H' vs ds → ds.all D.sca = true → (vs.countP fun z => eqV z v) = ds.countP fun z => eqS z d
  | _, _, .nil, _ => rfl
  | _, _, .cons g r, t => by
    rw [List.all_cons, Bool.and_eq_true] at t
    rw [List.countP_cons, List.countP_cons, cnt_rep h s r t.2, rep_eqS g t.1 h s]
theorem so_cnt (h : SQ K t T) (g : SE K u U) : SO K (tBM K "list" (rCntF K) t (tCons u tNil)) (dCntL T U) := fun y Hf aS Γ σ H Φ Q A hT k =>
  h y Hf aS Γ σ H _ _ A hT fun d Γ1 v Hf1 H1 A1 e1 k1 r1 hT1 => by
    split at hT1
    · rename_i ds
      obtain ⟨a, vs, rfl, f, r, n1⟩ := r1.lst A1.co
      refine ⟨.inl ⟨rfl, vs, SqL.of f⟩, g y Hf1 aS Γ1 σ H1 _ _ A1 hT1 fun e Γ2 w Hf2 H2 A2 e2 k2 r2 hT2 => ?_⟩
      obtain ⟨s1, s2, hΦ⟩ := hT2
      have f2 : H2 a = some (.lst vs) := k2 a _ f n1
      refine ⟨a, vs, w, rfl, rfl, SqL.of f2, rep_flat r2 s1, repL_flat r s2, ?_⟩
      rw [cnt_rep r2 s1 r s2]
      exact k (.fro (.int _)) Γ2 _ Hf2 H2 A2 (e1.trans e2) (k1.trans k2) (Rep.int _) trivial hΦ
    · exact hT1.elim
theorem o_cnt {X : Cx} {o e : Expr} {to te : TE} {T U : DE} {p2 pos : Pos} (h : PDQ X o to T) (g : PDE X e te U) (hbase : attributeBase o "count" X.env (eval o X.env) = eval o X.env := by rfl)
    (hfew : ((backTo pos (starEach [e] X.env)).all (fun x => !x.1) && (backToKw pos (keywordEach [] X.env)).all (fun x => x.1.isSome)
      && decide ([e].length + ([] : List Keyword).length + (if ([] : List Keyword).isEmpty then 0 else 1) < 30)) = true := by rfl)
    (hline : (p2.endLine == pos.line) = true := by rfl) (hs : starEach [e] X.env = (false, eval e X.env) :: starEach [] X.env := by rfl) :
    PDO X (.Call (.Attribute o "count" p2) [e] [] pos) (tBM X.K "list" (rCntF X.K) to (tCons te tNil)) (dCntL T U) :=
  ⟨pe_bm PySem.F.plainAttrs_list PySem.F.slot_list_count PySem.F.type_list_count mt_cntF h.p (pa_cons g.p pa_nil hs) hbase hfew hline hs rfl, so_cnt h.s g.s⟩
end
theorem PDSs.as {X : Cx} {ξ : WX} {st : List Stmt} {t t' : TS} {T : DS} (h : PDSs X ξ st t' T) (e : t' = t) : PDSs X ξ st t T := e ▸ h

end
section
/-! DLA: a bool and a number added; sorted of numbers. -/
def b2z (b : Bool) : Int := if b = true then 1 else 0
def addBD (a b : D) (k : B → Prop) : Prop := match a, b with
  | .int i, .int j => k (.fro (.int (i + j)))
  | .bl c, .int j => k (.fro (.int (b2z c + j)))
  | _, _ => False
def rAddB : R2 := fun x y H Q => rI0 (fun i j => .int (i + j)) x y H Q ∨ ∃ c j, x = .bl c ∧ y = .int j ∧ Q (.int (b2z c + j)) H
theorem op_add_bi {X : Cx} : OpR X (binaryOp .Add) (fun x y H Q => ∃ c j, x = .bl c ∧ y = .int j ∧ Q (.int (b2z c + j)) H) := by
  intro pins s σ H x y v u Q I rx ry h
  obtain ⟨c, j, rfl, rfl, q⟩ := h
  cases rx
  obtain ⟨t, rfl⟩ := ry
  exact PySem.IntBool.add_bool_int ⟨.int (b2z c + j), H, I.tok _, ⟨_, rfl⟩, q⟩
section
variable {K : PySem.W.Frag}
theorem op2_addB : Op2 K rAddB addBD := by
  intro y Hf aS Γ σ H x x' dx dy Φ Q A h1 h2 ho k
  unfold addBD at ho
  split at ho
  · exact .inl ⟨_, _, h1.int, h2.int, k (.fro _) _ Hf H A (Same.refl _) (Keep.refl _ _) (Rep.int _) trivial ho⟩
  · exact .inr ⟨_, _, h1.bl, h2.int, k (.fro _) _ Hf H A (Same.refl _) (Keep.refl _ _) (Rep.int _) trivial ho⟩
  · exact ho.elim
def sortID (ds : List D) (k : B → Prop) : Prop := ∃ ns : List Int, ds = [.lst (ns.map D.int)] ∧ ∀ ms : List Int, ms.Perm ns → ms.Pairwise (· ≤ ·) → k (.own (.lst (ms.map D.int)))
theorem cl_sortI : Cl K (rSortedI K) sortID := by
  intro y Hf aS Γ σ H vs ds Φ Q A h ho k
  obtain ⟨ns, rfl, ho⟩ := ho
  obtain ⟨v, rfl, g⟩ := h.one
  obtain ⟨a, us, rfl, f, r, _⟩ := g.lst A.co
  have e := RepL.ints_of r
  subst e
  exact ⟨a, ns, rfl, SqL.of f, fun ms p h1 h2 hp => k (.own (.lst _)) _ Hf _ (A.layO hp) (Same.refl _) (A.layK hp).2 ⟨p, rfl, ⟨_, upd_same, RepL.ints ms⟩, A.co.frzn hp, A.co.old hp, A.co.sne hp⟩ (A.apart (o := .lst []) hp) (ho ms h1 h2)⟩
end
theorem o_addB {X : Cx} {a b : Expr} {ta tb : TE} {T U : DE} {pos : Pos} (ha : PDQ X a ta T) (hb : PDQ X b tb U) : PDO X (.BinOp a .Add b pos) (tOp rAddB ta tb) (dOp addBD T U) := ⟨pe_op (op_add.or op_add_bi) ha.p hb.p, so_op op2_addB ha.s hb.s⟩

end
section
/-! DLB: strip(signs), upper(). -/
section
variable {K : PySem.W.Frag} {t u : TE} {T U : DE}
def rStripC : V → List V → Hp → VK → Prop := fun x xs H Q => ∃ a b, x = .str a ∧ xs = [.str b] ∧ a.length ≤ sizeLine ∧ Q (.str (Txt.stripChars a b)) H
def dStripC (T U : DE) : DO := fun Γ Φ => T Γ fun d Γ1 => match d with
  | .str x => U Γ1 fun e Γ2 => (match e with
    | .str z => x.length ≤ sizeLine ∧ Φ (.fro (.str (Txt.stripChars x z))) Γ2
    | _ => False)
  | _ => False
theorem so_stripC (h : SE K t T) (g : SE K u U) : SO K (tM1 rStripC t u) (dStripC T U) := fun y Hf aS Γ σ H Φ Q A hT k =>
  h y Hf aS Γ σ H _ _ A hT fun d Γ1 v Hf1 H1 A1 e1 k1 r1 hT1 => by
    split at hT1
    · rename_i x
      cases r1
      refine ⟨⟨x, rfl⟩, g y Hf1 aS Γ1 σ H1 _ _ A1 hT1 fun e Γ2 w Hf2 H2 A2 e2 k2 r2 hT2 => ?_⟩
      split at hT2
      · rename_i z
        cases r2
        exact ⟨x, z, rfl, rfl, hT2.1, k (.fro (.str _)) Γ2 _ Hf2 H2 A2 (e1.trans e2) (k1.trans k2) (Rep.str _) trivial hT2.2⟩
      · exact hT2.elim
    · exact hT1.elim
def rUpper : V → List V → Hp → VK → Prop := fun x xs H Q => ∃ a, x = .str a ∧ xs = [] ∧ a.length ≤ 5592405 ∧ Q (.str (Txt.upper a)) H
def dUpper (T : DE) : DO := fun Γ Φ => T Γ fun d Γ1 => match d with
  | .str x => x.length ≤ 5592405 ∧ Φ (.fro (.str (Txt.upper x))) Γ1
  | _ => False
theorem so_upper (h : SE K t T) : SO K (tM0 rUpper t) (dUpper T) := fun y Hf aS Γ σ H Φ Q A hT k =>
  h y Hf aS Γ σ H _ _ A hT fun d Γ1 v Hf1 H1 A1 e1 k1 r1 hT1 => by
    split at hT1
    · rename_i x
      cases r1
      exact ⟨⟨x, rfl⟩, x, rfl, rfl, hT1.1, k (.fro (.str _)) Γ1 _ Hf1 H1 A1 e1 k1 (Rep.str _) trivial hT1.2⟩
    · exact hT1.elim
end
theorem o_stripC {X : Cx} {o e : Expr} {to te : TE} {T U : DE} {apos pos : Pos} (h : PDE X o to T) (g : PDE X e te U) (hs : starEach [e] X.env = [(false, eval e X.env)] := by rfl)
    (hbase : attributeBase o "strip" X.env (eval o X.env) = eval o X.env := by rfl) (hline : (apos.endLine == pos.line) = true := by rfl) :
    PDO X (.Call (.Attribute o "strip" apos) [e] [] pos) (tM1 rStripC to te) (dStripC T U) := ⟨pe_m1 PySem.F.slot_str_strip PySem.F.type_str_strip mt_stripChars h.p g.p hs hbase hline, so_stripC h.s g.s⟩
theorem o_upper {X : Cx} {o : Expr} {to : TE} {T : DE} {apos pos : Pos} (h : PDE X o to T) (hbase : attributeBase o "upper" X.env (eval o X.env) = eval o X.env := by rfl) (hline : (apos.endLine == pos.line) = true := by rfl) :
    PDO X (.Call (.Attribute o "upper" apos) [] [] pos) (tM0 rUpper to) (dUpper T) := ⟨pe_m0 PySem.F.slot_str_upper PySem.F.type_str_upper mt_upper h.p hbase hline, so_upper h.s⟩

end
section
/-! DLC: dicts with texts or numbers for keys. -/
def valD (kvs : List (Key × D)) (k : Key) : Option D := (kvs.find? fun kv => decide (kv.1 = k)).map (·.2)
def putD (kvs : List (Key × D)) (k : Key) (v : D) : List (Key × D) :=
  if (kvs.any fun kv => decide (kv.1 = k)) = true then kvs.map (fun kv => if kv.1 = k then (kv.1, v) else kv) else kvs ++ [(k, v)]
def keyD : D → Option Key
  | .int i => some (.inl i)
  | .str x => some (.inr x)
  | _ => none
def kD : Key → D
  | .inl i => .int i
  | .inr x => .str x
section
variable {K : PySem.W.Frag} {H Hf : Hp}
theorem rep_key {v : V} {d : D} {k : Key} (h : Rep K H v d) (e : keyD d = some k) : v = kV k := by
  cases h <;> first | (cases e; done) | (cases e; rfl)
theorem prep_key {y : Yn} {Hf : Hp} {aS : Option Addr} {v : V} {d : D} {k : Key} (h : PRep K Hf aS H v d) (e : keyD d = some k) : v = kV k := by
  rcases h with h | ⟨a, o, e1, e2, _⟩
  · exact rep_key h e
  · cases o <;> (cases e2; cases e)
theorem RepK.val : ∀ {vs : List (Key × V)} {ds : List (Key × D)}, RepK K H vs ds → ∀ k, (valV vs k).isSome = (valD ds k).isSome ∧ ∀ d, valD ds k = some d → ∃ v, valV vs k = some v ∧ Rep K H v d
  | _, _, .nil, k => ⟨rfl, fun d h => nomatch h⟩
  | _, _, .cons (k := k') (v := v) (d := d) (vs := vs) (ds := ds) r t, k => by
    have ih := RepK.val t k
    unfold valV valD at ih ⊢
    rw [List.find?_cons, List.find?_cons]
    by_cases h : k' = k
    · simp only [h, decide_true]
      refine ⟨rfl, fun d' h' => ⟨v, rfl, ?_⟩⟩
      cases Option.some.inj h'
      exact r
    · simp only [h, decide_false]
      exact ih
theorem RepK.any : ∀ {vs : List (Key × V)} {ds : List (Key × D)}, RepK K H vs ds → ∀ k, (vs.any fun kv => decide (kv.1 = k)) = (ds.any fun kv => decide (kv.1 = k))
  | _, _, .nil, _ => rfl
  | _, _, .cons r t, k => by rw [List.any_cons, List.any_cons, RepK.any t k]
theorem RepK.app : ∀ {vs us : List (Key × V)} {ds es : List (Key × D)}, RepK K H vs ds → RepK K H us es → RepK K H (vs ++ us) (ds ++ es)
  | _, _, _, _, .nil, h => h
  | _, _, _, _, .cons r t, h => .cons r (RepK.app t h)
theorem RepK.upd {k : Key} {v : V} {d : D} (hv : Rep K H v d) : ∀ {vs : List (Key × V)} {ds : List (Key × D)}, RepK K H vs ds → RepK K H (vs.map fun kv => if kv.1 = k then (kv.1, v) else kv) (ds.map fun kv => if kv.1 = k then (kv.1, d) else kv)
  | _, _, .nil => .nil
  | _, _, .cons (k := k') r t => by
    rw [List.map_cons, List.map_cons]
    by_cases h : k' = k
    · simp only [h, if_true]
      exact .cons hv (RepK.upd hv t)
    · simp only [h, if_false]
      exact .cons r (RepK.upd hv t)
theorem RepK.put {vs : List (Key × V)} {ds : List (Key × D)} {k : Key} {v : V} {d : D} (h : RepK K H vs ds) (hv : Rep K H v d) : RepK K H (putK vs k v) (putD ds k d) := by
  unfold putK putD
  rw [h.any k]
  split
  · exact RepK.upd hv h
  · exact h.app (.cons hv .nil)
theorem RepK.keys : ∀ {vs : List (Key × V)} {ds : List (Key × D)}, RepK K H vs ds → vs.map (·.1) = ds.map (·.1)
  | _, _, .nil => rfl
  | _, _, .cons r t => by rw [List.map_cons, List.map_cons, RepK.keys t]
theorem RepK.len {vs : List (Key × V)} {ds : List (Key × D)} (h : RepK K H vs ds) : vs.length = ds.length := by
  have := congrArg List.length h.keys
  rwa [List.length_map, List.length_map] at this
/-! ### {} -/
def dNewD : DO := fun Γ Φ => Φ (.own (.dic [])) Γ
theorem so_dnew : SO K tDNewK dNewD := fun y Hf aS Γ σ H Φ Q A hT k => fun p hp =>
  k (.own (.dic [])) Γ _ Hf _ (A.layO hp) (Same.refl _) (A.layK hp).2 ⟨p, rfl, ⟨[], upd_same, .nil⟩, A.co.frzn hp, A.co.old hp, A.co.sne hp⟩ (A.apart (o := .dic []) hp) hT
/-! ### k in d, d[k] -/
def dinD (neg : Bool) (a b : D) (k : B → Prop) : Prop := match b with
  | .dic ds => (match keyD a with
    | some q => k (.fro (.bl (if neg then !(valD ds q).isSome else (valD ds q).isSome)))
    | none => False)
  | _ => False
def rDin (neg : Bool) : R2 := fun x y H Q => ∃ a o, y = .ref a ∧ DGet H a x o ∧ Q (.bl (if neg then !o.isSome else o.isSome)) H
theorem op_din {X : Cx} (hu : X.A.units + 1 < cLine) : OpR X (compareOp .In) (rDin false) := by
  intro pins s σ H x y v u Q I rx ry h
  obtain ⟨a, o, rfl, g, q⟩ := h
  obtain rfl : u = Value.ref a := ry
  exact d_in hu I g rx fun s3 I3 => ⟨.bl o.isSome, H, I3, rfl, q⟩
theorem op_dni {X : Cx} (hu : X.A.units + 1 < cLine) : OpR X (compareOp .NotIn) (rDin true) := by
  intro pins s σ H x y v u Q I rx ry h
  obtain ⟨a, o, rfl, g, q⟩ := h
  obtain rfl : u = Value.ref a := ry
  exact d_notIn hu I g rx fun s3 I3 => ⟨.bl (!o.isSome), H, I3, rfl, q⟩
theorem op2_din {neg : Bool} : Op2 K (rDin neg) (dinD neg) := by
  intro y Hf aS Γ σ H x x' dx dy Φ Q A h1 h2 ho k
  unfold dinD at ho
  split at ho
  · rename_i ds
    split at ho
    · rename_i q e
      obtain ⟨a, vs, rfl, f, r, _⟩ := h2.dic A.co
      have ek := prep_key (y := y) h1 e
      subst ek
      refine ⟨a, valV vs q, rfl, .inl ⟨vs, q, f, rfl, rfl⟩, ?_⟩
      rw [(r.val q).1]
      exact k (.fro _) _ Hf H A (Same.refl _) (Keep.refl _ _) (Rep.bl _) trivial ho
    · exact ho.elim
  · exact ho.elim
def dGetD (T U : DE) : DO := fun Γ Φ => T Γ fun dx Γ1 => U Γ1 fun dk Γ2 => match dx with
  | .dic ds => (match keyD dk with
    | some q => ∃ d, valD ds q = some d ∧ Φ (.fro d) Γ2
    | none => False)
  | _ => False
theorem so_dget {t u : TE} {T U : DE} (h : SQ K t T) (g : SQ K u U) : SO K (tDGet t u) (dGetD T U) := fun y Hf aS Γ σ H Φ Q A hT k =>
  h y Hf aS Γ σ H _ _ A hT fun dx Γ1 v Hf1 H1 A1 e1 k1 r1 hT1 => g y Hf1 aS Γ1 σ H1 _ _ A1 hT1 fun dk Γ2 w Hf2 H2 A2 e2 k2 r2 hT2 => by
    split at hT2
    · rename_i ds
      split at hT2
      · rename_i q e
        obtain ⟨d, hd, hΦ⟩ := hT2
        obtain ⟨a, vs, rfl, f, r, _⟩ := (r1.mono e2 k2).dic A2.co
        have ek := prep_key (y := y) r2 e
        subst ek
        obtain ⟨v', hv', rv⟩ := (r.val q).2 d hd
        exact ⟨a, v', rfl, .inl ⟨vs, q, f, rfl, hv'.symm⟩, k (.fro d) Γ2 _ Hf2 H2 A2 (e1.trans e2) (k1.trans k2) rv trivial hΦ⟩
      · exact hT2.elim
    · exact hT2.elim
/-! ### x[k] = v, x one's own -/
def dPutD (i : Nat) (T U : DE) : DS := fun De Γ => U Γ fun dv Γ1 => match Γ1.sl[i]? with
  | some (some (.own (.dic _))) => T Γ1 fun dk Γ2 => (match Γ2.sl[i]? with
    | some (some (.own (.dic ds))) => (match keyD dk with
      | some q => ds.length < sizeLine ∧ De.nx (Γ2.set i (.own (.dic (putD ds q dv))))
      | none => False)
    | _ => False)
  | _ => False
theorem ss_put {ω : Wm} (i : Nat) {t u : TE} {T U : DE} (g : SE K t T) (h : SE K u U) : SS K ω (sDPut (tVar i) t u) (dPutD i T U) := by
  intro y Hf aS Γ σ H De Dn A hT L
  refine h y Hf aS Γ σ H _ _ A hT fun dv Γ1 w Hf1 H1 A1 e1 k1 r1 hT1 => ?_
  split at hT1
  · rename_i ds0 es0
    obtain ⟨v, hv, a, rfl, ⟨vs0, g1, _⟩, g2, g3, g4⟩ := A1.slot i _ es0
    refine ⟨_, hv, g y Hf1 aS Γ1 σ H1 _ _ A1 hT1 fun dk Γ2 w2 Hf2 H2 A2 e2 k2 r2 hT2 => ?_⟩
    split at hT2
    · rename_i ds es
      split at hT2
      · rename_i q ek
        obtain ⟨v1, hv1, a1, rfl, ⟨vs, f1, f2⟩, f3, f4, f5⟩ := A2.slot i _ es
        rw [hv] at hv1
        have hv1 := V.ref.inj (Option.some.inj (Option.some.inj hv1))
        subst hv1
        have ew := rep_key r2 ek
        subst ew
        exact ⟨a, _, rfl, .inl ⟨vs, q, f1, rfl, by rw [f2.len]; exact hT2.1, rfl⟩, L.nx Hf2 aS _ σ _ (A2.put (o' := .dic _) (u := .dK (putK vs q w)) es hv ⟨_, upd_same, f2.put (r1.mono e2)⟩) hT2.2⟩
      · exact hT2.elim
    · exact hT2.elim
  · exact hT1.elim
/-! ### sorted(d), list(d) -/
def sortDD (ds : List D) (k : B → Prop) : Prop := ∃ (kvs : List (Key × D)) (ks : List Str), ds = [.dic kvs] ∧ kvs.map (·.1) = ks.map Sum.inr ∧ ks.length < 64 ∧ ∀ ys : List Str, ys.Perm ks → sortedS ys = true → k (.own (.lst (ys.map D.str)))
def rSortDD : List V → Hp → VK → Prop := fun xs H Q => ∃ (a : Addr) (kvs : List (Key × V)) (ks : List Str), xs = [.ref a] ∧ Rd H a (.dK kvs) ∧ kvs.map (·.1) = ks.map Sum.inr ∧ ks.length < 64 ∧
    ∀ ys p, ys.Perm ks → sortedS ys = true → H p = none → Q (.ref p) (upd H p (.lst (ys.map V.str)))
theorem cl_sortDD : Cl K rSortDD sortDD := by
  intro y Hf aS Γ σ H vs ds Φ Q A h ho k
  obtain ⟨kvs, ks, rfl, e, h64, ho⟩ := ho
  obtain ⟨v, rfl, g⟩ := h.one
  obtain ⟨a, us, rfl, f, r, _⟩ := g.dic A.co
  exact ⟨a, us, ks, rfl, f, r.keys.trans e, h64, fun ys p h1 h2 hp => k (.own (.lst _)) _ Hf _ (A.layO hp) (Same.refl _) (A.layK hp).2 ⟨p, rfl, ⟨_, upd_same, RepL.strs ys⟩, A.co.frzn hp, A.co.old hp, A.co.sne hp⟩ (A.apart (o := .lst []) hp) (ho ys h1 h2)⟩
end
/-! ### x.insert(i, e), x.pop(i), x one's own -/
section
variable {K : PySem.W.Frag} {ω : Wm} {t u : TE} {T U : DE}
def rIns : V → List V → Hp → VK → Prop := fun x vs H Q => ∃ (l : Addr) (xs : List V) (i : Int) (y : V), x = .ref l ∧ vs = [.int i, y] ∧ H l = some (.lst xs) ∧ xs.length < sizeLine ∧ 0 ≤ i ∧ i < 2 ^ 63 ∧
    Q .non (upd H l (.lst (xs.take i.toNat ++ [y] ++ xs.drop i.toNat)))
def dIns (j : Nat) (T U : DE) : DS := fun De Γ => match Γ.sl[j]? with
  | some (some (.own (.lst _))) => T Γ fun d1 Γ1 => U Γ1 fun d Γ2 => (match Γ2.sl[j]? with
    | some (some (.own (.lst ds))) => (match d1 with
      | .int i => ds.length < sizeLine ∧ 0 ≤ i ∧ i < 2 ^ 63 ∧ De.nx (Γ2.set j (.own (.lst (ds.take i.toNat ++ [d] ++ ds.drop i.toNat))))
      | _ => False)
    | _ => False)
  | _ => False
theorem ss_ins (j : Nat) (g : SE K t T) (h : SE K u U) : SS K ω (tDrop (tBM K "list" rIns (tVar j) (tCons t (tCons u tNil)))) (dIns j T U) := by
  intro y Hf aS Γ σ H De Dn A hT L
  unfold dIns at hT
  split at hT
  · rename_i ds0 e0
    obtain ⟨v, hv, a, rfl, ⟨vs0, g1, _⟩, g2, g3, g4⟩ := A.slot j _ e0
    refine ⟨_, hv, .inl ⟨rfl, vs0, .inl (.inl g1)⟩, ?_⟩
    refine g y Hf aS Γ σ H _ _ A hT fun d1 Γ1 w1 Hf1 H1 A1 e1 k1 r1 hT1 => h y Hf1 aS Γ1 σ H1 _ _ A1 hT1 fun d Γ2 w Hf2 H2 A2 e2 k2 r2 hT2 => ?_
    split at hT2
    · rename_i ds e
      split at hT2
      · rename_i i
        obtain ⟨v1, hv1, a1, rfl, ⟨vs, f1, f2⟩, f3, f4, f5⟩ := A2.slot j _ e
        rw [hv] at hv1
        have hv1 := V.ref.inj (Option.some.inj (Option.some.inj hv1))
        subst hv1
        cases r1
        refine ⟨a, vs, i, w, rfl, rfl, f1, by rw [f2.len]; exact hT2.1, hT2.2.1, hT2.2.2.1, L.nx Hf2 aS _ σ _ (A2.put (o' := .lst _) (u := .lst (vs.take i.toNat ++ [w] ++ vs.drop i.toNat)) e hv ⟨_, upd_same, ((f2.take _).app (.cons r2 .nil)).app (f2.drop _)⟩) hT2.2.2.2⟩
      · exact hT2.elim
    · exact hT2.elim
  · exact hT.elim
end
section
variable {K : PySem.W.Frag} {ω : Wm} {t : TE} {T : DE}
def dPopAt (j : Nat) (T : DE) : DS := fun De Γ => match Γ.sl[j]? with
  | some (some (.own (.lst _))) => T Γ fun d1 Γ1 => (match Γ1.sl[j]? with
    | some (some (.own (.lst ds))) => ∃ n : Nat, d1 = .int (n : Int) ∧ n < ds.length ∧ ds.length ≤ sizeLine ∧ De.nx (Γ1.set j (.own (.lst (ds.take n ++ ds.drop (n + 1)))))
    | _ => False)
  | _ => False
theorem ss_popAt (j : Nat) (g : SE K t T) : SS K ω (tDrop (tBM K "list" rPopAt (tVar j) (tCons t tNil))) (dPopAt j T) := by
  intro y Hf aS Γ σ H De Dn A hT L
  unfold dPopAt at hT
  split at hT
  · rename_i ds0 e0
    obtain ⟨v, hv, a, rfl, ⟨vs0, g1, _⟩, g2, g3, g4⟩ := A.slot j _ e0
    refine ⟨_, hv, .inl ⟨rfl, vs0, .inl (.inl g1)⟩, ?_⟩
    refine g y Hf aS Γ σ H _ _ A hT fun d1 Γ1 w1 Hf1 H1 A1 e1 k1 r1 hT1 => ?_
    split at hT1
    · rename_i ds e
      obtain ⟨n, rfl, hn, hz, hN⟩ := hT1
      obtain ⟨v1, hv1, a1, rfl, ⟨vs, f1, f2⟩, f3, f4, f5⟩ := A1.slot j _ e
      rw [hv] at hv1
      have hv1 := V.ref.inj (Option.some.inj (Option.some.inj hv1))
      subst hv1
      cases r1
      have hl := f2.len
      have hz2 : ds.length < 2 ^ 63 := Nat.lt_of_le_of_lt hz (by rw [sizeLine_eq]; decide)
      obtain ⟨w, hw, _⟩ := f2.get (List.getElem?_eq_getElem hn)
      refine ⟨a, vs, (n : Int), n, w, rfl, rfl, f1, by omega, by omega, ?_, hw, ?_⟩
      · have := PySem.StrLaws.seqIndex_nonneg (i := (n : Int)) (n := vs.length) (by omega) (by omega)
        rw [this]
        rfl
      · rw [List.eraseIdx_eq_take_drop_succ]
        exact L.nx Hf1 aS _ σ _ (A1.put (o' := .lst _) (u := .lst (vs.take n ++ vs.drop (n + 1))) e hv ⟨_, upd_same, (f2.take _).app (f2.drop _)⟩) hN
    · exact hT1.elim
  · exact hT.elim
end
/-! ### f(x, ..), x one's own list that f but looks at -/
section
variable {K : PySem.W.Frag} {t : TA} {T : DA}
def nolB (Φ : B → Prop) : B → Prop
  | .fro d => d.nol = true ∧ Φ (.fro d)
  | .own (.lst ds) => nolL ds = true ∧ Φ (.own (.lst ds))
  | _ => False
def dCallP (m : MP) (j : Nat) (T : DA) : DO := fun Γ Φ => match Γ.sl[j]? with
  | some (some (.own (.lst _))) => T Γ fun ds Γ1 => (match Γ1.sl[j]? with
    | some (some (.own (.lst xs))) => m (.lst xs :: ds) (nolB fun b => Φ b Γ1)
    | _ => False)
  | _ => False
theorem so_callP {m : MP} (j : Nat) {E : XK} (h : SA K t T) (mono : ∀ ds k k', (∀ b, k b → k' b) → m ds k → m ds k') : SO K (tCall (spP K m) [] E (tCons (tVar j) t)) (dCallP m j T) := by
  intro y Hf aS Γ σ H Φ Q A hT k
  unfold dCallP at hT
  split at hT
  · rename_i ds0 e0
    obtain ⟨v0, hv0, p0, rfl, _, _, _, _⟩ := A.slot j _ e0
    refine ⟨_, hv0, h y Hf aS Γ σ H _ _ A hT fun ds Γ1 vs Hf1 H1 A1 e1 k1 r1 hT1 => ?_⟩
    split at hT1
    · rename_i xs ex
      obtain ⟨u, hu, p, rfl, ⟨us, h1, h2⟩, h3, h4, h5⟩ := A1.slot j _ ex
      rw [hv0] at hu
      have hu := V.ref.inj (Option.some.inj (Option.some.inj hu))
      subst hu
      have c := A1.co
      have hSc : Same Hf1 (upd Hf1 p0 (.lst us)) := fun b o e => by rw [upd_ne (ne_of_none e h3)]; exact e
      have hSame : Same (upd Hf1 p0 (.lst us)) H1 := fun b o e => by
        by_cases hb : b = p0
        · subst hb; rw [upd_same] at e; rw [h1]; exact e
        · rw [upd_ne hb] at e; exact c.frz b o e
      refine ⟨upd Hf1 p0 (.lst us), .lst xs :: ds, hSame, ?_, mono _ _ _ (fun b hb w H' Hf' c' b' => ?_) hT1⟩
      · rw [List.append_nil]
        exact .cons (.lst upd_same (h2.mono hSc)) (r1.mono hSc)
      have hfp : Hf' p0 = some (.lst us) := c'.mon p0 _ upd_same
      have kp : ∀ a o, H1 a = some o → H' a = some o := fun a o h => c'.kept a o h (fun e => nomatch e)
      obtain ⟨Hn, hHn⟩ : ∃ Hn : Hp, ∀ b, Hn b = (match Hf' b with | some (.tup us) => some (.tup us) | _ => Hf1 b) := ⟨_, fun _ => rfl⟩
      have mon : Same Hf1 Hn := fun b o e => by
        have e' : Hf' b = some o := c'.mon b o (hSc b o e)
        rw [hHn, e']
        cases o <;> first | rfl | exact e
      have sub : Same Hn Hf' := fun b o e => by
        rw [hHn] at e
        split at e
        · rename_i us q
          rw [q]; exact e
        · exact c'.mon b o (hSc b o e)
      have tups : ∀ b us, Hf' b = some (.tup us) → Hn b = some (.tup us) := fun b us e => by rw [hHn, e]
      have c2 : Co ⟨H1, Hf1, aS⟩ Hn aS Γ1.S H' := by
        refine ⟨fun a o h _ => kp a o h, fun b o e => c'.frz b o (sub b o e), mon, fun b o e => ?_, ?_, .inr rfl, fun a e n => ?_⟩
        · by_cases hbp : b = p0
          · subst hbp
            rw [hHn, hfp] at e
            have e : Hf1 b = some o := e
            rw [h3] at e
            cases e
          · rcases c'.new b o (sub b o e) with ⟨u, hu⟩ | hz
            · have hu : upd Hf1 p0 (.lst us) b = some u := hu
              rw [upd_ne hbp] at hu
              exact .inl ⟨u, hu⟩
            · exact .inr hz
        · have q := c.sto
          revert q
          cases aS with
          | none => cases Γ1.S <;> exact id
          | some a =>
            cases Γ1.S with
            | none => exact id
            | some S =>
              rintro ⟨⟨cc, z1, z2⟩, z3⟩
              refine ⟨⟨cc, kp _ _ z1, mon _ _ z2⟩, ?_⟩
              rw [hHn]
              split
              · rename_i us q
                have := c'.frz _ _ q
                rw [kp _ _ z1] at this
                cases this
              · exact z3
        · have n' : aS = none := n
          rw [n'] at e
          cases e
      have A2 := A1.behind c2
      cases b with
      | sto => exact hb.elim
      | lk d => exact hb.elim
      | fro d => exact k (.fro d) _ w Hn H' A2 (e1.trans mon) (k1.trans c2.keep) (Rep.nol tups b' hb.1) trivial hb.2
      | own o =>
        cases o with
        | dic _ => exact hb.elim
        | ins _ _ => exact hb.elim
        | lst zs =>
          obtain ⟨a, rfl, ⟨ws, g1, g1'⟩, g2, g3, g4⟩ := b'
          have hna : Hn a = none := by
            rw [hHn, g2]
            exact c.frzn g3
          exact k (.own (.lst zs)) _ _ Hn H' A2 (e1.trans mon) (k1.trans c2.keep) ⟨a, rfl, ⟨ws, g1, RepL.nol tups g1' hb.1⟩, hna, c.old g3, c.sne g3⟩ (A1.apart (o := .lst []) g3) hb.2
    · exact hT1.elim
  · exact hT.elim
end
/-! ### short names -/
section
variable {X : Cx} {ξ : WX} {o i e : Expr} {to ti te : TE} {T U : DE} {pos : Pos}
theorem o_dnew : PDO X (.Dict [] [] pos) tDNewK dNewD := ⟨pe_dnewK, so_dnew⟩
theorem o_dget (hu : X.A.units + 1 < cLine) (h : PDQ X o to T) (g : PDQ X i ti U) (hs : NoSl i := by intro _ _; rfl) : PDO X (.Subscript o i pos) (tDGet to ti) (dGetD T U) := ⟨pe_dget hu h.p g.p hs, so_dget h.s g.s⟩
theorem s_dput (j : Nat) {x : Str} {p1 p2 : Pos} (hu : X.A.units + 1 < cLine) (g : PDE X i ti T) (h : PDE X e te U) (hN : X.N[j]? = some x := by rfl) (hv : Vis X.env.scope x := by first | exact Or.inl rfl | exact Or.inr (Or.inl rfl) | exact Or.inr (Or.inr rfl)) (hd : (x == ("__debug__" : Str)) = false := by decide)
    (hcd : (x == ("__classdict__" : Str)) = false := by decide) (hs : swapsWith e (some (.Subscript (.Name x p1) i p2)) pos.line X.env = pure false := by rfl) :
    PDS X ξ (.Assign [.Subscript (.Name x p1) i p2] e pos) (sDPut (tVar j) ti te) (dPutD j T U) := ⟨ps_dput hu (pv j hN hv hd hcd) g.p h.p hs, ss_put j g.s h.s⟩
theorem s_ins (j : Nat) {x : Str} {p1 p2 p3 : Pos} (g : PDE X i ti T) (h : PDE X e te U) (hN : X.N[j]? = some x := by rfl) (hv : Vis X.env.scope x := by first | exact Or.inl rfl | exact Or.inr (Or.inl rfl) | exact Or.inr (Or.inr rfl)) (hd : (x == ("__debug__" : Str)) = false := by decide)
    (hcd : (x == ("__classdict__" : Str)) = false := by decide) (hbase : attributeBase (.Name x p1) "insert" X.env (eval (.Name x p1) X.env) = eval (.Name x p1) X.env := by rfl)
    (hfew : ((backTo p3 (starEach [i, e] X.env)).all (fun x => !x.1) && (backToKw p3 (keywordEach [] X.env)).all (fun x => x.1.isSome)
      && decide ([i, e].length + ([] : List Keyword).length + (if ([] : List Keyword).isEmpty then 0 else 1) < 30)) = true := by rfl)
    (hline : (p2.endLine == p3.line) = true := by rfl) (hs : starEach [i, e] X.env = (false, eval i X.env) :: starEach [e] X.env := by rfl) (hs2 : starEach [e] X.env = (false, eval e X.env) :: starEach [] X.env := by rfl)
    (hpl : (backTo p3 (starEach [e] X.env)).any (·.1) = false := by rfl) (hsw : swapsWith (.Call (.Attribute (.Name x p1) "insert" p2) [i, e] [] p3) none pos.line X.env = pure false := by rfl) :
    PDS X ξ (.Expr (.Call (.Attribute (.Name x p1) "insert" p2) [i, e] [] p3) pos) (tDrop (tBM X.K "list" rIns (tVar j) (tCons ti (tCons te tNil)))) (dIns j T U) :=
  ⟨ps_expr (pe_bm PySem.F.plainAttrs_list PySem.F.slot_list_insert PySem.F.type_list_insert mt_insert (pv j hN hv hd hcd) (pa_cons g.p (pa_cons h.p pa_nil hs2) hs) hbase hfew hline hs hpl) hsw, ss_ins j g.s h.s⟩
theorem s_popAt (j : Nat) {x : Str} {p1 p2 p3 : Pos} (g : PDE X i ti T) (hN : X.N[j]? = some x := by rfl) (hv : Vis X.env.scope x := by first | exact Or.inl rfl | exact Or.inr (Or.inl rfl) | exact Or.inr (Or.inr rfl)) (hd : (x == ("__debug__" : Str)) = false := by decide)
    (hcd : (x == ("__classdict__" : Str)) = false := by decide) (hbase : attributeBase (.Name x p1) "pop" X.env (eval (.Name x p1) X.env) = eval (.Name x p1) X.env := by rfl)
    (hfew : ((backTo p3 (starEach [i] X.env)).all (fun x => !x.1) && (backToKw p3 (keywordEach [] X.env)).all (fun x => x.1.isSome)
      && decide ([i].length + ([] : List Keyword).length + (if ([] : List Keyword).isEmpty then 0 else 1) < 30)) = true := by rfl)
    (hline : (p2.endLine == p3.line) = true := by rfl) (hs : starEach [i] X.env = (false, eval i X.env) :: starEach [] X.env := by rfl)
    (hsw : swapsWith (.Call (.Attribute (.Name x p1) "pop" p2) [i] [] p3) none pos.line X.env = pure false := by rfl) :
    PDS X ξ (.Expr (.Call (.Attribute (.Name x p1) "pop" p2) [i] [] p3) pos) (tDrop (tBM X.K "list" rPopAt (tVar j) (tCons ti tNil))) (dPopAt j T) :=
  ⟨ps_expr (pe_bm PySem.F.plainAttrs_list PySem.F.slot_list_pop PySem.F.type_list_pop mt_popAt (pv j hN hv hd hcd) (pa_cons g.p pa_nil hs) hbase hfew hline hs rfl) hsw, ss_popAt j g.s⟩
theorem o_callP {jj k : Nat} {m : MP} (j : Nat) {x z : Str} {p pz : Pos} {es : List Expr} {tas : TA} {TAs : DA} (F : Fp X.prog X.w X.K X.mg X.base jj x m) (hr : Room k X.A) (hj : jj ≤ k) (ha : PDA X es tas TAs) (hN : X.N[j]? = some z := by rfl)
    (hv : Vis X.env.scope z := by first | exact Or.inl rfl | exact Or.inr (Or.inl rfl) | exact Or.inr (Or.inr rfl)) (hd : (z == ("__debug__" : Str)) = false := by decide) (hcd : (z == ("__classdict__" : Str)) = false := by decide)
    (hg : Gl X x := by rfl) (hdb : (x == ("__debug__" : Str)) = false := by decide)
    (he : starEach (Expr.Name z pz :: es) X.env = (false, eval (.Name z pz) X.env) :: starEach es X.env := by rfl) (hpl : (backTo pos (starEach es X.env)).any (·.1) = false := by rfl) :
    PDO X (.Call (.Name x p) (.Name z pz :: es) [] pos) (tCall (spP X.K m) [] E0 (tCons (tVar j) tas)) (dCallP m j TAs) := by
  obtain ⟨f, fd, ps, G, g, kp, b⟩ := F.ex
  exact ⟨pe_call G (hr.mono hj) hg g kp b .nil pass0 (pa_cons (pv j hN hv hd hcd) ha.p he) hdb he hpl, so_callP j ha.s F.mono⟩
end

end
section
/-! DLD: arguments looked at, own classes: methods, fields, properties, instances made, isinstance. -/

/-! ### looked at -/
inductive LRepL (K : PySem.W.Frag) (Hf H : Hp) : List V → List D → Prop
  | nil : LRepL K Hf H [] []
  | cons {v : V} {d : D} {vs : List V} {ds : List D} : LRep K Hf H v d → LRepL K Hf H vs ds → LRepL K Hf H (v :: vs) (d :: ds)
def lkB (d : D) : B := bif d.sca then .fro d else .lk d
/-- the parameters' slots: ms tells which of them are kept (they come frozen) -/
def slB : List Bool → List D → List (Option B)
  | _, [] => []
  | true :: ms, d :: ds => some (.fro d) :: slB ms ds
  | false :: ms, d :: ds => some (lkB d) :: slB ms ds
  | [], d :: ds => some (lkB d) :: slB [] ds
def startQ (N : List Str) (ms : List Bool) (ds : List D) : List (Option B) := slB ms ds ++ List.replicate (N.length - ds.length) none
def Kept (K : PySem.W.Frag) (Hf : Hp) (ms : List Bool) (vs : List V) (ds : List D) : Prop := ∀ (i : Nat) (v : V) (d : D), ms[i]? = some true → vs[i]? = some v → ds[i]? = some d → Rep K Hf v d
theorem Kept.nil {K : PySem.W.Frag} {Hf : Hp} {vs : List V} {ds : List D} : Kept K Hf [] vs ds := fun i v d h => by simp at h
theorem Kept.tl {K : PySem.W.Frag} {Hf : Hp} {b : Bool} {ms : List Bool} {v : V} {d : D} {vs : List V} {ds : List D} (h : Kept K Hf (b :: ms) (v :: vs) (d :: ds)) : Kept K Hf ms vs ds := fun i u e h1 h2 h3 => h (i + 1) u e h1 h2 h3
theorem Kept.cons {K : PySem.W.Frag} {Hf : Hp} {b : Bool} {ms : List Bool} {v : V} {d : D} {vs : List V} {ds : List D} (h : b = true → Rep K Hf v d) (t : Kept K Hf ms vs ds) : Kept K Hf (b :: ms) (v :: vs) (d :: ds) := fun i u e h1 h2 h3 => by
  cases i with
  | zero =>
    have h1 := Option.some.inj h1
    have h2 := Option.some.inj h2
    have h3 := Option.some.inj h3
    subst h2 h3
    exact h h1
  | succ i => exact t i u e h1 h2 h3
theorem Kept.mono {K : PySem.W.Frag} {Hf Hf' : Hp} {ms : List Bool} {vs : List V} {ds : List D} (e : Same Hf Hf') (h : Kept K Hf ms vs ds) : Kept K Hf' ms vs ds := fun i v d h1 h2 h3 => (h i v d h1 h2 h3).mono e
theorem slB_len : ∀ (ms : List Bool) (ds : List D), (slB ms ds).length = ds.length
  | [], [] => rfl
  | _ :: _, [] => rfl
  | true :: ms, d :: ds => congrArg (· + 1) (slB_len ms ds)
  | false :: ms, d :: ds => congrArg (· + 1) (slB_len ms ds)
  | [], d :: ds => congrArg (· + 1) (slB_len [] ds)
section
variable {K : PySem.W.Frag} {y : Yn} {Hf Hf' : Hp} {aS : Option Addr} {Γ : Ev} {σ : L2.St} {H H' : Hp} {S : Option Sto} {v : V} {d : D} {r : B}
theorem LRepL.len : ∀ {vs : List V} {ds : List D}, LRepL K Hf H vs ds → vs.length = ds.length
  | _, _, .nil => rfl
  | _, _, .cons _ r => congrArg (· + 1) r.len
theorem LRepL.get : ∀ {vs : List V} {ds : List D} {i : Nat} {d : D}, LRepL K Hf H vs ds → ds[i]? = some d → ∃ v, vs[i]? = some v ∧ LRep K Hf H v d
  | _, _, _, _, .nil, e => by simp at e
  | _, _, 0, _, .cons h _, e => by
    have e := Option.some.inj e
    subst e
    exact ⟨_, rfl, h⟩
  | _, _, i + 1, d, .cons _ r, e => LRepL.get (i := i) r e
theorem LRepL.app : ∀ {vs us : List V} {ds es : List D}, LRepL K Hf H vs ds → LRepL K Hf H us es → LRepL K Hf H (vs ++ us) (ds ++ es)
  | _, _, _, _, .nil, r => r
  | _, _, _, _, .cons h t, r => .cons h (LRepL.app t r)
theorem PRep.l (h : PRep K Hf aS H v d) : LRep K Hf H v d := h.imp id fun ⟨a, o, e1, e2, h, _⟩ => ⟨a, o, e1, e2, h⟩
theorem PRepL.l : ∀ {vs : List V} {ds : List D}, PRepL K Hf aS H vs ds → LRepL K Hf H vs ds
  | _, _, .nil => .nil
  | _, _, .cons h r => .cons h.l (PRepL.l r)
theorem RepL.l : ∀ {vs : List V} {ds : List D}, RepL K Hf vs ds → LRepL K Hf H vs ds
  | _, _, .nil => .nil
  | _, _, .cons h r => .cons (.inl h) (RepL.l r)
theorem LRep.up (k : ∀ a u, H a = some u → H' a = some u) (e : Same Hf Hf') (h : LRep K Hf H v d) : LRep K Hf' H' v d :=
  h.imp (fun h => h.mono e) fun ⟨a, o, e1, e2, h⟩ => ⟨a, o, e1, e2, h.mono e (k a)⟩
theorem LRepL.up (k : ∀ a u, H a = some u → H' a = some u) (e : Same Hf Hf') : ∀ {vs : List V} {ds : List D}, LRepL K Hf H vs ds → LRepL K Hf' H' vs ds
  | _, _, .nil => .nil
  | _, _, .cons h r => .cons (h.up k e) (LRepL.up k e r)
theorem LRep.scal (h : LRep K Hf H v d) (s : d.sca = true) : Rep K Hf v d := by
  rcases h with h | ⟨a, o, _, rfl, _⟩
  · exact h
  · cases o <;> cases s
theorem lkB_at (h : LRep K Hf H v d) (h0 : ∀ a u, H a = some u → y.H0 a = some u) (n : y.a0 = none) : BAt K y Hf aS H' v (lkB d) := by
  unfold lkB
  cases e : d.sca with
  | true => exact h.scal e
  | false =>
    rcases h with h | ⟨a, o, e1, e2, h⟩
    · exact .inl h
    · exact .inr ⟨a, o, e1, e2, h.mono (Same.refl _) (h0 a), by rw [n]; exact fun z => nomatch z⟩
theorem lkB_own {d : D} {o : O} : lkB d ≠ .own o := by
  unfold lkB
  cases d.sca <;> exact fun z => nomatch z
theorem slB_get : ∀ {ms : List Bool} {ds : List D} {i : Nat} {b : B}, (slB ms ds)[i]? = some (some b) → ∃ d, ds[i]? = some d ∧ (b = lkB d ∨ (ms[i]? = some true ∧ b = .fro d))
  | [], [], i, b, h => by simp [slB] at h
  | _ :: _, [], i, b, h => by simp [slB] at h
  | true :: ms, d :: ds, 0, b, h => ⟨d, rfl, .inr ⟨rfl, (Option.some.inj (Option.some.inj h)).symm⟩⟩
  | false :: ms, d :: ds, 0, b, h => ⟨d, rfl, .inl (Option.some.inj (Option.some.inj h)).symm⟩
  | [], d :: ds, 0, b, h => ⟨d, rfl, .inl (Option.some.inj (Option.some.inj h)).symm⟩
  | true :: ms, d :: ds, i + 1, b, h => slB_get (ms := ms) (ds := ds) (i := i) h
  | false :: ms, d :: ds, i + 1, b, h => slB_get (ms := ms) (ds := ds) (i := i) h
  | [], d :: ds, i + 1, b, h => by
    obtain ⟨d', h1, h2⟩ := slB_get (ms := []) (ds := ds) (i := i) h
    refine ⟨d', h1, h2.imp id fun ⟨z, _⟩ => ?_⟩
    simp at z
theorem startQ_get {N : List Str} {ms : List Bool} {ds : List D} {i : Nat} {b : B} (h : (startQ N ms ds)[i]? = some (some b)) : ∃ d, ds[i]? = some d ∧ (b = lkB d ∨ (ms[i]? = some true ∧ b = .fro d)) := by
  unfold startQ at h
  by_cases hi : i < ds.length
  · rw [List.getElem?_append_left (by rw [slB_len]; exact hi)] at h
    exact slB_get h
  · rw [List.getElem?_append_right (by rw [slB_len]; omega), List.getElem?_replicate] at h
    split at h <;> cases h
theorem startQ_at {N : List Str} {ms : List Bool} {vs : List V} {ds : List D} (r : LRepL K Hf H vs ds) (kp : Kept K Hf ms vs ds) (h0 : ∀ a u, H a = some u → y.H0 a = some u) (n : y.a0 = none) {i : Nat} {b : B} (h : (startQ N ms ds)[i]? = some (some b)) : ∃ v, (start N vs)[i]? = some (some v) ∧ BAt K y Hf aS H' v b := by
  obtain ⟨d, hd, hb⟩ := startQ_get h
  obtain ⟨v, hv, hr⟩ := r.get hd
  refine ⟨v, start_get hv, ?_⟩
  rcases hb with rfl | ⟨hm, rfl⟩
  · exact lkB_at hr h0 n
  · exact kp i v d hm hv hd
theorem startQ_own {N : List Str} {ms : List Bool} {ds : List D} {i : Nat} {o : O} : (startQ N ms ds)[i]? ≠ some (some (.own o)) := fun h => by
  obtain ⟨d, _, z | ⟨_, z⟩⟩ := startQ_get h
  · exact absurd z.symm lkB_own
  · cases z
theorem startQ_len (N : List Str) (ms : List Bool) {vs : List V} {ds : List D} (h : vs.length = ds.length) : (start N vs).length = (startQ N ms ds).length := by
  show (vs.map some ++ List.replicate (N.length - vs.length) none).length = (slB ms ds ++ List.replicate (N.length - ds.length) none).length
  rw [List.length_append, List.length_append, List.length_map, slB_len, List.length_replicate, List.length_replicate, h]
theorem at_startQ {N : List Str} {ms : List Bool} {vs : List V} {ds : List D} (e : Same Hf H) (r : LRepL K Hf H vs ds) (kp : Kept K Hf ms vs ds) : At K ⟨H, Hf, none⟩ Hf none ⟨startQ N ms ds, none⟩ (start N vs) H :=
  At.mk2 (Γ := ⟨startQ N ms ds, none⟩) (startQ_len N ms r.len) ⟨fun a o h _ => h, e, Same.refl _, fun a o h => .inl ⟨o, h⟩, trivial, .inl rfl, fun a e => nomatch e⟩ (fun i b h => startQ_at r kp (fun _ _ h => h) rfl h) (fun i j a oi oj h1 _ _ _ => absurd h1 startQ_own) rfl
/-- behind something that promised for a smaller heap -/
theorem Co.sub {Hm : Hp} (c : Co ⟨Hm, Hf, none⟩ Hf' none none H') (k : ∀ a o, H a = some o → Hm a = some o) : Co ⟨H, Hf, none⟩ Hf' none none H' := by
  refine ⟨fun a o h n => c.kept a o (k a o h) n, c.frz, c.mon, fun a o h => ?_, trivial, .inl rfl, fun a e => nomatch e⟩
  rcases c.new a o h with z | z
  · exact Or.inl z
  · right
    show H a = none
    cases e : H a with
    | none => rfl
    | some u =>
      have z : Hm a = none := z
      rw [k a u e] at z
      cases z
/-! ### objects by their addresses -/
theorem At.hpo (A : At K y Hf aS Γ σ H) {n : Nat} {a : Addr} {o : O} (h : Γ.hp.l[n]? = some (a, o)) : OwnAt K Hf H a o ∧ Hf a = none ∧ y.H0 a = none ∧ aS ≠ some a := by
  have h1 : Γ.all[Γ.sl.length + n]? = some (some (B.own o)) := by
    rw [List.getElem?_append_right (by omega), Nat.add_sub_cancel_left]
    unfold hpS
    rw [List.getElem?_map, h]
    rfl
  have h2 : (Γ.vals σ)[Γ.sl.length + n]? = some (some (V.ref a)) := by
    rw [List.getElem?_append_right (by rw [A.len]; omega), A.len, Nat.add_sub_cancel_left]
    unfold hpV
    rw [List.getElem?_map, h]
    rfl
  obtain ⟨v, hv, a', e, g⟩ := A.sl.slot _ _ h1
  rw [h2] at hv
  have hv := Option.some.inj (Option.some.inj hv)
  subst hv
  have e := V.ref.inj e
  subst e
  exact g
theorem At.hput (A : At K y Hf aS Γ σ H) {n : Nat} {a : Addr} {o o' : O} {u : HO} (h : Γ.hp.l[n]? = some (a, o)) (new : OwnAt K Hf (upd H a u) a o') : At K y Hf aS (Γ.hs (Γ.hp.l.set n (a, o'))) σ (upd H a u) := by
  obtain ⟨_, g2, g3, g4⟩ := A.hpo h
  have h1 : Γ.all[Γ.sl.length + n]? = some (some (B.own o)) := by
    rw [List.getElem?_append_right (by omega), Nat.add_sub_cancel_left]
    unfold hpS
    rw [List.getElem?_map, h]
    rfl
  have h2 : (Γ.vals σ)[Γ.sl.length + n]? = some (some (V.ref a)) := by
    rw [List.getElem?_append_right (by rw [A.len]; omega), A.len, Nat.add_sub_cancel_left]
    unfold hpV
    rw [List.getElem?_map, h]
    rfl
  have q := A.sl.put (o' := o') (u := u) h1 h2 new g2 g3 g4
  have e1 : (Γ.hs (Γ.hp.l.set n (a, o'))).all = Γ.all.set (Γ.sl.length + n) (some (.own o')) := by
    show Γ.sl ++ hpS (Γ.hp.l.set n (a, o')) = _
    rw [List.set_append_right _ _ (by omega), Nat.add_sub_cancel_left]
    unfold hpS
    rw [List.map_set]
  have e2 : (Γ.hs (Γ.hp.l.set n (a, o'))).vals σ = Γ.vals σ := by
    show σ ++ hpV (Γ.hp.l.set n (a, o')) = σ ++ hpV Γ.hp.l
    congr 1
    unfold hpV
    rw [List.map_set]
    refine set_same ?_
    rw [List.getElem?_map, h]
    rfl
  refine ⟨A.co.put1 g2 g3 g4, ?_⟩
  rw [e1, e2]
  exact q
theorem Sl.snoc {sl : List (Option B)} (A : Sl K y Hf aS sl σ H) {a : Addr} {o : O} (h : OwnAt K Hf H a o) (hf : Hf a = none) (h0 : y.H0 a = none) (hs : aS ≠ some a) (ap : ∀ (i : Nat) (u : O), sl[i]? = some (some (B.own u)) → σ[i]? ≠ some (some (V.ref a))) :
    Sl K y Hf aS (sl ++ [some (.own o)]) (σ ++ [some (.ref a)]) H := by
  have last : ∀ {i : Nat} {b : B}, (sl ++ [some (B.own o)])[i]? = some (some b) → (sl[i]? = some (some b) ∧ (σ ++ [some (V.ref a)])[i]? = σ[i]?) ∨ (i = sl.length ∧ b = .own o ∧ (σ ++ [some (V.ref a)])[i]? = some (some (V.ref a))) := fun {i b} e => by
    by_cases hi : i < sl.length
    · rw [List.getElem?_append_left hi] at e
      exact .inl ⟨e, List.getElem?_append_left (by rw [A.len]; exact hi)⟩
    · rw [List.getElem?_append_right (by omega)] at e
      have hn : i - sl.length = 0 := by
        by_cases z : i - sl.length = 0
        · exact z
        · rw [List.getElem?_eq_none (by simp; omega)] at e
          cases e
      rw [hn] at e
      have e := Option.some.inj (Option.some.inj e)
      refine .inr ⟨by omega, e.symm, ?_⟩
      rw [List.getElem?_append_right (by rw [A.len]; omega), A.len, hn]
      rfl
  refine ⟨by rw [List.length_append, List.length_append, A.len]; rfl, fun i b e => ?_, fun i j b oi oj e1 e2 g1 g2 => ?_⟩
  · rcases last e with ⟨e, q⟩ | ⟨_, rfl, q⟩
    · rw [q]
      exact A.slot i b e
    · exact ⟨_, q, a, rfl, h, hf, h0, hs⟩
  · rcases last e1 with ⟨e1, q1⟩ | ⟨n1, z1, q1⟩
    · rcases last e2 with ⟨e2, q2⟩ | ⟨n2, z2, q2⟩
      · rw [q1] at g1
        rw [q2] at g2
        exact A.sep i j b oi oj e1 e2 g1 g2
      · rw [q1] at g1
        rw [q2] at g2
        rw [← Option.some.inj g2] at g1
        exact absurd g1 (ap i oi e1)
    · rcases last e2 with ⟨e2, q2⟩ | ⟨n2, z2, q2⟩
      · rw [q1] at g1
        rw [q2] at g2
        rw [← Option.some.inj g1] at g2
        exact absurd g2 (ap j oj e2)
      · omega
theorem At.hadd (A : At K y Hf aS Γ σ H) {a : Addr} {o : O} (h : OwnAt K Hf H a o) (hf : Hf a = none) (h0 : y.H0 a = none) (hs : aS ≠ some a) (ap : ∀ (i : Nat) (u : O), Γ.all[i]? = some (some (B.own u)) → (Γ.vals σ)[i]? ≠ some (some (V.ref a))) :
    At K y Hf aS (Γ.hs (Γ.hp.l ++ [(a, o)])) σ H := by
  have q := A.sl.snoc h hf h0 hs ap
  have e1 : (Γ.hs (Γ.hp.l ++ [(a, o)])).all = Γ.all ++ [some (.own o)] := by
    show Γ.sl ++ hpS (Γ.hp.l ++ [(a, o)]) = _
    unfold hpS
    rw [List.map_append, List.append_assoc]
    rfl
  have e2 : (Γ.hs (Γ.hp.l ++ [(a, o)])).vals σ = Γ.vals σ ++ [some (.ref a)] := by
    show σ ++ hpV (Γ.hp.l ++ [(a, o)]) = _
    unfold hpV
    rw [List.map_append, List.append_assoc]
    rfl
  refine ⟨A.co, ?_⟩
  rw [e1, e2]
  exact q
end

/-! ### what such defs promise -/
def spQ (K : PySem.W.Frag) (mg : Str → Option Value) (ms : List Bool) (m : MX) : Sp := fun vs H Q E => ∃ Hf ds, Same Hf H ∧ LRepL K Hf H vs ds ∧ Kept K Hf ms vs ds ∧
  m ds (fun r => ∀ v H' Hf', Co ⟨H, Hf, none⟩ Hf' none none H' → RAt K ⟨H, Hf, none⟩ Hf' none H' v r → Q v H')
    fun x => ∀ C dd H' Hf', mg x.c = some (.ref C) → Co ⟨H, Hf, none⟩ Hf' none none H' → XdAt K Hf' dd x.fs → E (.ref C) dd H'
abbrev MonoX (m : MX) : Prop := ∀ ds k k' e e', (∀ b, k b → k' b) → (∀ x, e x → e' x) → m ds k e → m ds k' e'
structure Fq (P : Program) (w : World) (K : PySem.W.Frag) (mg : Str → Option Value) (base : Heap) (k : Nat) (x : Str) (ms : List Bool) (m : MX) : Prop where
  ex : ∃ f fd ps, FnOk P w K mg base (L2N.CX P w) k f fd ps (spQ K mg ms m) ∧ mg x = some (.ref f) ∧ PySem.W.keepIn K (.ref f) = true ∧ Binds K fd ps []
  mono : MonoX m
/-- a method -/
structure Fm (P : Program) (w : World) (K : PySem.W.Frag) (mg : Str → Option Value) (base : Heap) (k : Nat) (c x : Str) (flds : List Str) (ms : List Bool) (m : MX) : Prop where
  ex : ∃ C f fd ps, cAt K c C ∧ Cls K C ∧ Meth K C x f ∧ FnOk P w K mg base (L2N.CX P w) k f fd ps (spQ K mg (false :: ms) m) ∧ Binds K fd ps []
  nf : x ∉ flds
  mono : MonoX m
/-- a property -/
structure Fr (P : Program) (w : World) (K : PySem.W.Frag) (mg : Str → Option Value) (base : Heap) (k : Nat) (c x : Str) (m : MX) : Prop where
  ex : ∃ C p f fd ps, cAt K c C ∧ Cls K C ∧ PropOf K C x p f ∧ FnOk P w K mg base (L2N.CX P w) k f fd ps (spQ K mg [] m) ∧ Binds K fd ps []
  mono : MonoX m
def scaV : D → V
  | .bl b => .bl b
  | .int i => .int i
  | .str x => .str x
  | _ => .non
theorem rep_sca {K : PySem.W.Frag} {H : Hp} : ∀ {dds : List D}, dds.all D.sca = true → RepL K H (dds.map scaV) dds
  | [], _ => .nil
  | d :: ds, h => by
    rw [List.all_cons, Bool.and_eq_true] at h
    refine .cons ?_ (rep_sca h.2)
    cases d with
    | non => exact .non
    | bl b => exact .bl b
    | int i => exact .int i
    | str x => exact .str x
    | _ => cases h.1
abbrev MI := List D → (List (Str × D) → Prop) → (Xc → Prop) → Prop
def less (H : Hp) (a : Addr) : Hp := fun b => if b = a then none else H b
theorem less_ne {H : Hp} {a b : Addr} (h : b ≠ a) : less H a b = H b := if_neg h
theorem less_get {H : Hp} {a b : Addr} {o : HO} (h : less H a b = some o) : b ≠ a ∧ H b = some o := by
  unfold less at h
  split at h
  · cases h
  · exact ⟨by assumption, h⟩
/-- an __init__ -/
def spN (K : PySem.W.Frag) (mg : Str → Option Value) (c : Str) (ms : List Bool) (m : MI) : Sp := fun vs H Q E => ∃ a C dx us Hf ds, vs = .ref a :: us ∧ cAt K c C ∧ H a = some (.ins C dx []) ∧ Hf a = none ∧ Same Hf H ∧ LRepL K Hf (less H a) us ds ∧ Kept K Hf ms us ds ∧
  m ds (fun fs => ∀ H' Hf' dx' vfs, Co ⟨less H a, Hf, none⟩ Hf' none none H' → Hf' a = none → H' a = some (.ins C dx' vfs) → RepF K Hf' vfs fs → Q .non H')
    fun x => ∀ Cx dd H' Hf', mg x.c = some (.ref Cx) → Co ⟨less H a, Hf, none⟩ Hf' none none H' → XdAt K Hf' dd x.fs → E (.ref Cx) dd H'
abbrev MonoI (m : MI) : Prop := ∀ ds k k' e e', (∀ b, k b → k' b) → (∀ x, e x → e' x) → m ds k e → m ds k' e'
/-- a class that is made with n arguments and the keywords ks, the defaults dds between them -/
structure Fk (P : Program) (w : World) (K : PySem.W.Frag) (mg : Str → Option Value) (base : Heap) (k : Nat) (c : Str) (n : Nat) (ks : List Str) (dds : List D) (ms : List Bool) (m : MI) : Prop where
  ex : ∃ C f fd ps g, cAt K c C ∧ mg c = some (.ref C) ∧ Mk K C f ∧ FnOk P w K mg base (L2N.CX P w) k f fd ps (spN K mg c ms m) ∧ KBn K fd ps (n + 1) ks g (fun vs zs => vs ++ dds.map scaV ++ zs)
  dv : dds.all D.sca = true
  mz : ms.length ≤ n
  mono : MonoI m
section
variable {P : Program} {w : World} {K : PySem.W.Frag} {mg : Str → Option Value} {base : Heap}
theorem okQ1 {x q : Str} {st : Stmt} {f : Addr} {fd : FuncData} {N ps : List Str} {k : Nat} {ms : List Bool} {m : MX} (FF : Fun K x q st f fd) (S : FnScope N ps (defScope st)) (hl : ∀ ds κ ε, m ds κ ε → ds.length = ps.length)
    (hb : ∀ (f : Addr) (cdv : Value) (A : Around) (outer : List Env) (s : Shared) (H : Hp) (E : XK), Room k (A.deeper (envOfC q (defScope st) s.heap.objs.size f cdv)) →
      ∃ t T, PDSs (cxOf (L2N.CX P w) P w K mg base N q (defScope st) f cdv A outer s H E) (fun cls d _ H => E cls d H) (defBody st) t T ∧
        ∀ ds κ ε, m ds κ ε → T ⟨fun _ => κ (.fro .non), rtP κ, fun _ => False, fun _ => False, fun x _ => ε x⟩ ⟨startQ N ms ds, none⟩) :
    FnOk P w K mg base (L2N.CX P w) (k + 1) f fd ps (spQ K mg ms m) := by
  obtain ⟨oc, od, kV, doc, pm, an, cdv, ct, osl, rfl, lk, hcd⟩ := FF.ex
  refine fn_of lk hcd S (fun vs H Q E h => ?_) fun A outer s H vs Q E hr h => ?_
  · obtain ⟨Hf, ds, _, r, _, hm⟩ := h
    rw [r.len]
    exact hl _ _ _ hm
  · obtain ⟨Hf, ds, e, r, kp, hm⟩ := h
    obtain ⟨t, T, pd, q⟩ := hb f cdv A outer s H E hr
    refine ⟨t, pd.p, pd.s ⟨H, Hf, none⟩ Hf none ⟨startQ N ms ds, none⟩ (start N vs) H _ _ (at_startQ e r kp) (q ds _ _ hm) ⟨fun Hf' aS Γ σ H' A' z => ?_, fun Hf' aS S' H' v r' c b' z => ?_, fun _ _ _ _ _ _ z => z, fun _ _ _ _ _ _ z => z, fun Hf' aS Γ σ H' x C dd A' mx hx z => ?_⟩⟩
    · exact z .non H' Hf' (A'.co.noS rfl) Rep.non
    · cases r' with
      | sto => exact z.elim
      | lk d => exact z.2 v H' Hf' (c.noS rfl) (show Rep K Hf' v d from lk_sca b' z.1)
      | fro d => exact z v H' Hf' (c.noS rfl) b'
      | own o =>
        obtain ⟨a, e1, h1, h2, h3, h4⟩ := b'
        exact z v H' Hf' (c.noS rfl) ⟨a, e1, h1, h2, h3, fun e => nomatch e⟩
    · exact z C dd H' Hf' mx (A'.co.noS rfl) hx
theorem okQ {x : Str} {st : Stmt} {N ps : List Str} {k : Nat} {ms : List Bool} {m : MX} (F : Df K mg x st ps) (S : FnScope N ps (defScope st)) (hl : ∀ ds κ ε, m ds κ ε → ds.length = ps.length) (mono : MonoX m)
    (hb : ∀ (f : Addr) (cdv : Value) (A : Around) (outer : List Env) (s : Shared) (H : Hp) (E : XK), Room k (A.deeper (envOfC x (defScope st) s.heap.objs.size f cdv)) →
      ∃ t T, PDSs (cxOf (L2N.CX P w) P w K mg base N x (defScope st) f cdv A outer s H E) (fun cls d _ H => E cls d H) (defBody st) t T ∧
        ∀ ds κ ε, m ds κ ε → T ⟨fun _ => κ (.fro .non), rtP κ, fun _ => False, fun _ => False, fun x _ => ε x⟩ ⟨startQ N ms ds, none⟩) : Fq P w K mg base (k + 1) x ms m := by
  obtain ⟨f, fd, FF, g, b⟩ := F.ex
  exact ⟨⟨f, fd, ps, okQ1 FF S hl hb, g, FF.kp, b⟩, mono⟩
/-- where a method stands -/
structure Dm (K : PySem.W.Frag) (c x q : Str) (st : Stmt) (ps : List Str) : Prop where
  ex : ∃ C f fd, cAt K c C ∧ Cls K C ∧ Meth K C x f ∧ Fun K x q st f fd ∧ Binds K fd ps []
structure Dr (K : PySem.W.Frag) (c x q : Str) (st : Stmt) (ps : List Str) : Prop where
  ex : ∃ C p f fd, cAt K c C ∧ Cls K C ∧ PropOf K C x p f ∧ Fun K x q st f fd ∧ Binds K fd ps []
theorem okM {c x q : Str} {flds : List Str} {st : Stmt} {N ps : List Str} {k : Nat} {ms : List Bool} {m : MX} (F : Dm K c x q st ps) (S : FnScope N ps (defScope st)) (nf : x ∉ flds) (hl : ∀ ds κ ε, m ds κ ε → ds.length = ps.length) (mono : MonoX m)
    (hb : ∀ (f : Addr) (cdv : Value) (A : Around) (outer : List Env) (s : Shared) (H : Hp) (E : XK), Room k (A.deeper (envOfC q (defScope st) s.heap.objs.size f cdv)) →
      ∃ t T, PDSs (cxOf (L2N.CX P w) P w K mg base N q (defScope st) f cdv A outer s H E) (fun cls d _ H => E cls d H) (defBody st) t T ∧
        ∀ ds κ ε, m ds κ ε → T ⟨fun _ => κ (.fro .non), rtP κ, fun _ => False, fun _ => False, fun x _ => ε x⟩ ⟨startQ N (false :: ms) ds, none⟩) : Fm P w K mg base (k + 1) c x flds ms m := by
  obtain ⟨C, f, fd, g, cl, hm, FF, b⟩ := F.ex
  exact ⟨⟨C, f, fd, ps, g, cl, hm, okQ1 FF S hl hb, b⟩, nf, mono⟩
theorem okR {c x q : Str} {st : Stmt} {N ps : List Str} {k : Nat} {m : MX} (F : Dr K c x q st ps) (S : FnScope N ps (defScope st)) (hl : ∀ ds κ ε, m ds κ ε → ds.length = ps.length) (mono : MonoX m)
    (hb : ∀ (f : Addr) (cdv : Value) (A : Around) (outer : List Env) (s : Shared) (H : Hp) (E : XK), Room k (A.deeper (envOfC q (defScope st) s.heap.objs.size f cdv)) →
      ∃ t T, PDSs (cxOf (L2N.CX P w) P w K mg base N q (defScope st) f cdv A outer s H E) (fun cls d _ H => E cls d H) (defBody st) t T ∧
        ∀ ds κ ε, m ds κ ε → T ⟨fun _ => κ (.fro .non), rtP κ, fun _ => False, fun _ => False, fun x _ => ε x⟩ ⟨startQ N [] ds, none⟩) : Fr P w K mg base (k + 1) c x m := by
  obtain ⟨C, p, f, fd, g, cl, hm, FF, b⟩ := F.ex
  exact ⟨⟨C, p, f, fd, ps, g, cl, hm, okQ1 FF S hl hb, b⟩, mono⟩
/-- the end of an __init__: what the instance holds -/
def nxN (κ : List (Str × D) → Prop) (a : Addr) (c : Str) : Ev → Prop := fun Γ => ∃ fs, Γ.hp.l[0]? = some (a, .ins c fs) ∧ κ fs
def startN (N : List Str) (ms : List Bool) (a : Addr) (c : Str) (ds : List D) : Ev := @Ev.mk (some (.fro (.ptr a)) :: startQ N ms ds) none ⟨[(a, .ins c [])]⟩
theorem okN1 {x q c x0 : Str} {st : Stmt} {f : Addr} {fd : FuncData} {N ps : List Str} {k : Nat} {ms : List Bool} {m : MI} (FF : Fun K x q st f fd) (S : FnScope (x0 :: N) (x0 :: ps) (defScope st)) (hl : ∀ ds κ ε, m ds κ ε → ds.length = ps.length)
    (hb : ∀ (f : Addr) (cdv : Value) (A : Around) (outer : List Env) (s : Shared) (H : Hp) (E : XK), Room k (A.deeper (envOfC q (defScope st) s.heap.objs.size f cdv)) →
      ∃ t T, PDSs (cxOf (L2N.CX P w) P w K mg base (x0 :: N) q (defScope st) f cdv A outer s H E) (fun cls d _ H => E cls d H) (defBody st) t T ∧
        ∀ a ds κ ε, m ds κ ε → T ⟨nxN κ a c, fun _ _ => False, fun _ => False, fun _ => False, fun x _ => ε x⟩ (startN N ms a c ds)) :
    FnOk P w K mg base (L2N.CX P w) (k + 1) f fd (x0 :: ps) (spN K mg c ms m) := by
  obtain ⟨oc, od, kV, doc, pm, an, cdv, ct, osl, rfl, lk, hcd⟩ := FF.ex
  refine fn_of lk hcd S (fun vs H Q E h => ?_) fun A outer s H vs Q E hr h => ?_
  · obtain ⟨a, C, dx, us, Hf, ds, rfl, _, _, _, _, r, _, hm⟩ := h
    rw [List.length_cons, r.len, hl _ _ _ hm, List.length_cons]
  · obtain ⟨a, C, dx, us, Hf, ds, rfl, g, ha, hfa, e, r, kp, hm⟩ := h
    obtain ⟨t, T, pd, q⟩ := hb f cdv A outer s H E hr
    have hst : start (x0 :: N) (V.ref a :: us) = some (V.ref a) :: start N us := by
      unfold L2.start
      rw [List.length_cons, List.length_cons, Nat.add_sub_add_right]
      rfl
    have A0 : At K ⟨less H a, Hf, none⟩ Hf none ⟨some (.fro (.ptr a)) :: startQ N ms ds, none⟩ (start (x0 :: N) (V.ref a :: us)) H := by
      rw [hst]
      refine At.mk2 (Γ := ⟨some (.fro (.ptr a)) :: startQ N ms ds, none⟩) (congrArg (· + 1) (startQ_len N ms r.len)) ⟨fun b o h _ => (less_get h).2, e, Same.refl _, fun b o h => .inl ⟨o, h⟩, trivial, .inl rfl, fun b e => nomatch e⟩ (fun i b h => ?_) (fun i j b oi oj h1 h2 _ _ => ?_) rfl
      · cases i with
        | zero =>
          have h := Option.some.inj (Option.some.inj h)
          subst h
          exact ⟨.ref a, rfl, Rep.ptr⟩
        | succ i =>
          have h : (startQ N ms ds)[i]? = some (some b) := h
          exact startQ_at r kp (fun _ _ h => h) rfl h
      · cases i with
        | zero => cases Option.some.inj (Option.some.inj h1)
        | succ i =>
          have h : (startQ N ms ds)[i]? = some (some (B.own oi)) := h1
          exact absurd h startQ_own
    have A1 : At K ⟨less H a, Hf, none⟩ Hf none (startN N ms a c ds) (start (x0 :: N) (V.ref a :: us)) H := by
      refine A0.hadd (o := .ins c []) ⟨C, dx, [], g, ha, .nil⟩ hfa (if_pos rfl) (fun e => nomatch e) fun i u h => ?_
      have e1 : (⟨some (.fro (.ptr a)) :: startQ N ms ds, none⟩ : Ev).all = some (.fro (.ptr a)) :: startQ N ms ds := List.append_nil _
      rw [e1] at h
      cases i with
      | zero => cases Option.some.inj (Option.some.inj h)
      | succ i =>
        have h : (startQ N ms ds)[i]? = some (some (B.own u)) := h
        exact absurd h startQ_own
    refine ⟨t, pd.p, pd.s ⟨less H a, Hf, none⟩ Hf none (startN N ms a c ds) (start (x0 :: N) (V.ref a :: us)) H _ { nx := fun _ H' => Q .non H', rt := Q } A1 (q a ds _ _ hm) ⟨fun Hf' aS Γ σ H' A' z => ?_, fun Hf' aS S' H' v r' c b' z => z.elim, fun _ _ _ _ _ _ z => z, fun _ _ _ _ _ _ z => z, fun Hf' aS Γ σ H' x C dd A' mx hx z => ?_⟩⟩
    · obtain ⟨fs, h1, h2⟩ := z
      obtain ⟨⟨C', dx', vfs, g', h3, h4⟩, h5, _, _⟩ := A'.hpo h1
      have e := g.uniq g'
      subst e
      exact h2 H' Hf' dx' vfs (A'.co.noS rfl) h5 h3 h4
    · exact z C dd H' Hf' mx (A'.co.noS rfl) hx
end

/-! ### calls, the arguments looked at, some of them kept -/
def SMA (K : PySem.W.Frag) (ms : List Bool) (t : TA) (T : DA) : Prop := ∀ y Hf aS Γ σ H Φ Q, At K y Hf aS Γ σ H → T Γ Φ →
  (∀ ds Γ' vs Hf' H', At K y Hf' aS Γ' σ H' → Same Hf Hf' → Keep aS H H' → PRepL K Hf' aS H' vs ds → Kept K Hf' ms vs ds → Φ ds Γ' → Q vs H') → t σ H Q
structure PDMA (X : Cx) (es : List Expr) (ms : List Bool) (t : TA) (T : DA) : Prop where
  p : PA X es t
  s : SMA X.K ms t T
theorem SQA.m {K : PySem.W.Frag} {t : TA} {T : DA} (h : SQA K t T) : SMA K [] t T := fun y Hf aS Γ σ H Φ Q A hT k => h y Hf aS Γ σ H Φ Q A hT fun ds Γ' vs Hf' H' A' e q r => k ds Γ' vs Hf' H' A' e q r Kept.nil
theorem PDQA.m {X : Cx} {es : List Expr} {t : TA} {T : DA} (h : PDQA X es t T) : PDMA X es [] t T := ⟨h.p, h.s.m⟩
theorem am_q {X : Cx} {e : Expr} {es : List Expr} {ms : List Bool} {t : TE} {T : DE} {u : TA} {U : DA} (h : PDQ X e t T) (g : PDMA X es ms u U) (hs : starEach (e :: es) X.env = (false, eval e X.env) :: starEach es X.env := by rfl) : PDMA X (e :: es) (false :: ms) (tCons t u) (dCons T U) :=
  ⟨pa_cons h.p g.p hs, fun y Hf aS Γ σ H Φ Q A hT k =>
  h.s y Hf aS Γ σ H _ _ A hT fun d Γ1 v Hf1 H1 A1 e1 k1 r1 hT1 => g.s y Hf1 aS Γ1 σ H1 _ _ A1 hT1 fun ds Γ2 vs Hf2 H2 A2 e2 k2 r2 kp hΦ =>
    k (d :: ds) Γ2 (v :: vs) Hf2 H2 A2 (e1.trans e2) (k1.trans k2) (.cons (r1.mono e2 k2) r2) (.cons (fun z => nomatch z) kp) hΦ⟩
theorem am_e {X : Cx} {e : Expr} {es : List Expr} {ms : List Bool} {t : TE} {T : DE} {u : TA} {U : DA} (h : PDE X e t T) (g : PDMA X es ms u U) (hs : starEach (e :: es) X.env = (false, eval e X.env) :: starEach es X.env := by rfl) : PDMA X (e :: es) (true :: ms) (tCons t u) (dCons T U) :=
  ⟨pa_cons h.p g.p hs, fun y Hf aS Γ σ H Φ Q A hT k =>
  h.s y Hf aS Γ σ H _ _ A hT fun d Γ1 v Hf1 H1 A1 e1 k1 r1 hT1 => g.s y Hf1 aS Γ1 σ H1 _ _ A1 hT1 fun ds Γ2 vs Hf2 H2 A2 e2 k2 r2 kp hΦ =>
    k (d :: ds) Γ2 (v :: vs) Hf2 H2 A2 (e1.trans e2) (k1.trans k2) (.cons (.inl (r1.mono e2)) r2) (.cons (fun _ => r1.mono e2) kp) hΦ⟩
section
variable {K : PySem.W.Frag} {ω : Wm} {mg : Str → Option Value} {t : TE} {ta : TA} {T : DE} {TAs : DA} {ms : List Bool} {m : MX}
theorem sox_callq (h : SMA K ms ta TAs) (mono : MonoX m) : SOX K ω (tCallS (spQ K ω.mg ms m) (WE ω.W) ta) (dCallX m TAs) := by
  intro y Hf aS Γ σ H Φ Ψ Q A hT k kx
  refine h y Hf aS Γ σ H _ _ A hT fun ds Γ1 vs Hf1 H1 A1 e1 k1 r1 kp hT1 => ?_
  refine ⟨Hf1, ds, A1.co.frz, r1.l, kp, mono _ _ _ _ _ (fun b hb v H' Hf' c' b' => ?_) (fun x hx C dd H' Hf' hm c' hd => ?_) hT1⟩
  · have c2 := A1.co.put c'
    have q := back_b A1 c' b'
    exact k b Γ1 v Hf' H' (A1.behind c2) (e1.trans c'.mon) (k1.trans c2.keep) q.1 q.2 hb
  · exact kx x Γ1 Hf' H' C dd (A1.behind (A1.co.put c')) hm hd hx
theorem so_callqN (h : SMA K ms ta TAs) (mono : MonoX m) : SO K (tCall (spQ K mg ms m) [] E0 ta) (dCallN m TAs) := by
  intro y Hf aS Γ σ H Φ Q A hT k
  refine h y Hf aS Γ σ H _ _ A hT fun ds Γ1 vs Hf1 H1 A1 e1 k1 r1 kp hT1 => ?_
  refine ⟨Hf1, ds, A1.co.frz, by rw [List.append_nil]; exact r1.l, by rw [List.append_nil]; exact kp, mono _ _ _ _ _ (fun b hb v H' Hf' c' b' => ?_) (fun x hx => hx.elim) hT1⟩
  have c2 := A1.co.put c'
  have q := back_b A1 c' b'
  exact k b Γ1 v Hf' H' (A1.behind c2) (e1.trans c'.mon) (k1.trans c2.keep) q.1 q.2 hb
end
section
variable {X : Cx} {ξ : WX} {e : Expr} {es : List Expr} {tas : TA} {TAs : DA} {pos p : Pos} {x : Str}
theorem x_callq {j k : Nat} {ms : List Bool} {m : MX} (F : Fq X.prog X.w X.K X.mg X.base j x ms m) (hr : Room k X.A) (hj : j ≤ k) (tk : L2N.Takes X ξ) (ha : PDMA X (e :: es) ms tas TAs) (hg : Gl X x := by rfl) (hdb : (x == ("__debug__" : Str)) = false := by decide)
    (he : starEach (e :: es) X.env = (false, eval e X.env) :: starEach es X.env := by rfl) (hpl : (backTo pos (starEach es X.env)).any (·.1) = false := by rfl) :
    PDX X ξ (.Call (.Name x p) (e :: es) [] pos) (tCallS (spQ X.K X.mg ms m) (WE ξ) tas) (dCallX m TAs) := by
  obtain ⟨f, fd, ps, G, g, kp, b⟩ := F.ex
  exact ⟨pe_callS G (hr.mono hj) hg g kp b (fun σ => L2N.passAt tk σ) ha.p hdb he hpl, sox_callq (ω := ⟨X.mg, ξ⟩) ha.s F.mono⟩
theorem o_callq {j k : Nat} {ms : List Bool} {m : MX} (F : Fq X.prog X.w X.K X.mg X.base j x ms m) (hr : Room k X.A) (hj : j ≤ k) (ha : PDMA X (e :: es) ms tas TAs) (hg : Gl X x := by rfl) (hdb : (x == ("__debug__" : Str)) = false := by decide)
    (he : starEach (e :: es) X.env = (false, eval e X.env) :: starEach es X.env := by rfl) (hpl : (backTo pos (starEach es X.env)).any (·.1) = false := by rfl) :
    PDO X (.Call (.Name x p) (e :: es) [] pos) (tCall (spQ X.K X.mg ms m) [] E0 tas) (dCallN m TAs) := by
  obtain ⟨f, fd, ps, G, g, kp, b⟩ := F.ex
  exact ⟨pe_call G (hr.mono hj) hg g kp b .nil passN ha.p hdb he hpl, so_callqN ha.s F.mono⟩
end

/-! ### instances looked at -/
section
variable {K : PySem.W.Frag} {y : Yn} {Hf Hf' : Hp} {aS : Option Addr} {Γ : Ev} {σ : L2.St} {H H' : Hp} {S : Option Sto} {v : V} {d : D} {r : B}
theorem PRep.ins (c : Co y Hf aS S H) {cn : Str} {fs : List (Str × D)} (h : PRep K Hf aS H v (.ins cn fs)) : ∃ a C dx vs, v = .ref a ∧ cAt K cn C ∧ H a = some (.ins C dx vs) ∧ RepF K Hf vs fs := by
  rcases h with h | ⟨a, o, e1, e2, h, _⟩
  · cases h with
    | ins g h1 h2 => exact ⟨_, _, _, _, rfl, g, c.frz _ _ h1, h2⟩
  · cases o with
    | ins cn' fs' =>
      cases e2
      obtain ⟨C, dx, vs, g, h1, h2⟩ := h
      exact ⟨a, C, dx, vs, e1, g, h1, h2⟩
    | lst _ => cases e2
    | dic _ => cases e2
theorem RepF.keys : ∀ {vs : List (Str × V)} {ds : List (Str × D)}, RepF K H vs ds → vs.map (·.1) = ds.map (·.1)
  | _, _, .nil => rfl
  | _, _, .cons r t => by rw [List.map_cons, List.map_cons, RepF.keys t]
theorem RepF.val : ∀ {vs : List (Str × V)} {ds : List (Str × D)} {j : Nat} {d : D}, RepF K H vs ds → (ds.map (·.2))[j]? = some d → ∃ v, (vs.map (·.2))[j]? = some v ∧ Rep K H v d
  | _, _, _, _, .nil, e => by simp at e
  | _, _, 0, _, .cons h _, e => by
    have e := Option.some.inj e
    subst e
    exact ⟨_, rfl, h⟩
  | _, _, j + 1, _, .cons _ r, e => RepF.val (j := j) r e
theorem look_none {α : Type} {f : Str} : ∀ {fs : List (Str × α)}, f ∉ fs.map (·.1) → fs.lookup f = none
  | [], _ => rfl
  | (g, x) :: r, h => by
    rw [List.map_cons, List.mem_cons, not_or] at h
    rw [List.lookup_cons, beq_eq_false_iff_ne.mpr h.1]
    exact look_none h.2
theorem look_at {α : Type} {f : Str} : ∀ {fs : List (Str × α)} {j : Nat} {v : α}, (fs.map (·.1)).Nodup → (fs.map (·.1))[j]? = some f → (fs.map (·.2))[j]? = some v → fs.lookup f = some v
  | [], _, _, _, h, _ => by simp at h
  | (g, x) :: r, 0, v, _, h, e => by
    have h := Option.some.inj h
    have e := Option.some.inj e
    subst h e
    rw [List.lookup_cons, beq_self_eq_true]
  | (g, x) :: r, j + 1, v, nd, h, e => by
    rw [List.map_cons, List.nodup_cons] at nd
    have h : (r.map (·.1))[j]? = some f := h
    have hm := List.mem_of_getElem? h
    have hne : f ≠ g := fun z => nd.1 (by rw [← z]; exact hm)
    rw [List.lookup_cons, beq_eq_false_iff_ne.mpr hne]
    exact look_at nd.2 h e
theorem putF_new {f : Str} {x : V} : ∀ {fs : List (Str × V)}, f ∉ fs.map (·.1) → putF f x fs = fs ++ [(f, x)]
  | [], _ => rfl
  | (g, z) :: r, h => by
    rw [List.map_cons, List.mem_cons, not_or] at h
    unfold putF
    rw [if_neg (fun e => h.1 e.symm), putF_new h.2]
    rfl
theorem putF_set {f : Str} {x : V} : ∀ {fs : List (Str × V)} {j : Nat}, (fs.map (·.1)).Nodup → (fs.map (·.1))[j]? = some f → putF f x fs = fs.set j (f, x)
  | [], _, _, h => by simp at h
  | (g, z) :: r, 0, _, h => by
    have h := Option.some.inj h
    subst h
    unfold putF
    rw [if_pos rfl]
    rfl
  | (g, z) :: r, j + 1, nd, h => by
    rw [List.map_cons, List.nodup_cons] at nd
    have h : (r.map (·.1))[j]? = some f := h
    have hne : g ≠ f := fun e => nd.1 (by rw [e]; exact List.mem_of_getElem? h)
    unfold putF
    rw [if_neg hne, putF_set nd.2 h]
    rfl
theorem RepF.app1 {f : Str} {x : V} {d : D} {vs : List (Str × V)} {ds : List (Str × D)} (r : RepF K H vs ds) (h : Rep K H x d) : RepF K H (vs ++ [(f, x)]) (ds ++ [(f, d)]) := RepF.app r (.cons h .nil)
end
/-- an instance of the class c with these fields -/
def isI (c : Str) (flds : List Str) (d : D) : Prop := ∃ fs, d = .ins c fs ∧ fs.map (·.1) = flds
def fldI (c : Str) (flds : List Str) (j : Nat) (d v : D) : Prop := ∃ fs, d = .ins c fs ∧ fs.map (·.1) = flds ∧ (fs.map (·.2))[j]? = some v
/-- what of a class's text its fields ask -/
structure Ci (K : PySem.W.Frag) (c : Str) (flds : List Str) : Prop where
  ex : ∃ C, cAt K c C ∧ Cls K C ∧ ∀ f ∈ flds, NoAttr K C f
  nd : flds.Nodup
  le : flds.length < 1000

/-! ### e.f -/
def dFld (c : Str) (flds : List Str) (j : Nat) (T : DE) : DE := fun Γ Φ => T Γ fun d Γ1 => ∃ v, fldI c flds j d v ∧ Φ v Γ1
section
variable {K : PySem.W.Frag} {t : TE} {T : DE}
theorem se_fld {c f : Str} {flds : List Str} {j : Nat} (I : Ci K c flds) (hf : flds[j]? = some f) (h : SQ K t T) : SE K (tFld K t f) (dFld c flds j T) := fun y Hf aS Γ σ H Φ Q A hT k =>
  h y Hf aS Γ σ H _ _ A hT fun d Γ1 v Hf1 H1 A1 e1 k1 r1 ⟨w, ⟨fs, e, hk, hv⟩, hΦ⟩ => by
    subst e
    obtain ⟨C, g, cl, na⟩ := I.ex
    obtain ⟨a, C', dx, vs, rfl, g', ha, rf⟩ := r1.ins A1.co
    have eC := g.uniq g'
    subst eC
    obtain ⟨u, hu, ru⟩ := rf.val hv
    exact ⟨a, C, dx, vs, u, rfl, ha, cl, na f (List.mem_of_getElem? hf), look_at (by rw [rf.keys, hk]; exact I.nd) (by rw [rf.keys, hk]; exact hf) hu, k w Γ1 u Hf1 H1 A1 e1 k1 ru hΦ⟩
/-- self.f in __init__ -/
def dFldP (i : Nat) (c : Str) (flds : List Str) (j : Nat) : DE := fun Γ Φ => match Γ.sl[i]?, Γ.hp.l with
  | some (some (.fro (.ptr a))), (a', .ins c' fs) :: _ => a' = a ∧ c' = c ∧ ∃ n v, fs.map (·.1) = flds.take n ∧ (fs.map (·.2))[j]? = some v ∧ Φ v Γ
  | _, _ => False
theorem se_fldP {c f : Str} {flds : List Str} {j : Nat} (i : Nat) (I : Ci K c flds) (hf : flds[j]? = some f) : SE K (tFld K (tVar i) f) (dFldP i c flds j) := by
  intro y Hf aS Γ σ H Φ Q A hT k
  unfold dFldP at hT
  split at hT
  · rename_i a a' c' fs r e1 e2
    obtain ⟨rfl, rfl, n, v, hk, hv, hΦ⟩ := hT
    obtain ⟨u, hu, hb⟩ := A.slot i _ e1
    have hb : Rep K Hf u (.ptr a') := hb
    cases hb
    obtain ⟨⟨C', dx, vs, g', ha, rf⟩, _, _, _⟩ := A.hpo (n := 0) (by rw [e2]; rfl)
    obtain ⟨C, g, cl, na⟩ := I.ex
    have eC := g.uniq g'
    subst eC
    obtain ⟨w, hw, rw_⟩ := rf.val hv
    have hlt : j < (flds.take n).length := by
      rw [← hk, List.length_map]
      have := (List.getElem?_eq_some_iff.mp hv).1
      rwa [List.length_map] at this
    have hf' : (flds.take n)[j]? = some f := by
      rw [List.getElem?_take, if_pos (by rw [List.length_take] at hlt; omega)]
      exact hf
    have nd : (flds.take n).Nodup := I.nd.sublist (List.take_sublist n flds)
    exact ⟨_, hu, a', C, dx, vs, w, rfl, ha, cl, na f (List.mem_of_getElem? hf), look_at (by rw [rf.keys, hk]; exact nd) (by rw [rf.keys, hk]; exact hf') hw, k v Γ w Hf H A (Same.refl _) (Keep.refl _ _) rw_ hΦ⟩
  · exact hT.elim
/-- self.f = e in __init__, a new field -/
def dFldN (i : Nat) (c f : Str) (flds : List Str) (j : Nat) (T : DE) : DS := fun De Γ => T Γ fun d Γ1 => match Γ1.sl[i]?, Γ1.hp.l with
  | some (some (.fro (.ptr a))), (a', .ins c' fs) :: r => a' = a ∧ c' = c ∧ fs.map (·.1) = flds.take j ∧ De.nx (Γ1.hs ((a', .ins c' (fs ++ [(f, d)])) :: r))
  | _, _ => False
theorem ss_fldN {ω : Wm} {c f : Str} {flds : List Str} {j : Nat} (i : Nat) (I : Ci K c flds) (hf : flds[j]? = some f) (h : SE K t T) : SS K ω (sFld K (tVar i) t f) (dFldN i c f flds j T) := by
  intro y Hf aS Γ σ H De Dn A hT L
  refine h y Hf aS Γ σ H _ _ A hT fun d Γ1 w Hf1 H1 A1 e1 k1 r1 hT1 => ?_
  split at hT1
  · rename_i a a' c' fs r q1 q2
    obtain ⟨rfl, rfl, hk, hn⟩ := hT1
    obtain ⟨u, hu, hb⟩ := A1.slot i _ q1
    have hb : Rep K Hf1 u (.ptr a') := hb
    cases hb
    obtain ⟨⟨C', dx, vs, g', ha, rf⟩, _, _, _⟩ := A1.hpo (n := 0) (by rw [q2]; rfl)
    obtain ⟨C, g, cl, na⟩ := I.ex
    have eC := g.uniq g'
    subst eC
    have hj := (List.getElem?_eq_some_iff.mp hf).1
    have hnew : f ∉ vs.map (·.1) := by
      rw [rf.keys, hk]
      intro hm
      obtain ⟨m, hm⟩ := List.getElem?_of_mem hm
      have hml := (List.getElem?_eq_some_iff.mp hm).1
      rw [List.length_take] at hml
      rw [List.getElem?_take, if_pos (by omega)] at hm
      have nd := I.nd
      have e3 : flds[m]? = flds[j]? := by rw [hm, hf]
      have := (List.getElem?_inj (by omega) nd).mp e3
      omega
    have hlen : vs.length < 1000 := by
      have e3 := congrArg List.length (rf.keys.trans hk)
      rw [List.length_map, List.length_take] at e3
      have := I.le
      omega
    have A2 := A1.hput (n := 0) (o' := .ins c' (fs ++ [(f, d)])) (u := .ins C dx (putF f w vs)) (by rw [q2]; rfl) ⟨C, dx, _, g, upd_same, by rw [putF_new hnew]; exact rf.app1 r1⟩
    rw [q2] at A2
    exact ⟨_, hu, a', C, dx, vs, rfl, ha, cl, na f (List.mem_of_getElem? hf), hlen, L.nx Hf1 aS _ σ _ A2 hn⟩
  · exact hT1.elim
end
section
variable {X : Cx} {ξ : WX} {e : Expr} {t : TE} {T : DE} {pos p1 p2 : Pos}
theorem e_fld {c f : Str} {flds : List Str} (j : Nat) (I : Ci X.K c flds) (h : PDQ X e t T) (hf : flds[j]? = some f := by rfl) (hb : attributeBase e f X.env (eval e X.env) = eval e X.env := by rfl) : PDE X (.Attribute e f pos) (tFld X.K t f) (dFld c flds j T) :=
  ⟨pe_fld h.p hb, se_fld I hf h.s⟩
theorem e_fldP {c f x : Str} {flds : List Str} (i j : Nat) (I : Ci X.K c flds) (hf : flds[j]? = some f := by rfl) (hN : X.N[i]? = some x := by rfl) (hv : Vis X.env.scope x := by first | exact Or.inl rfl | exact Or.inr (Or.inl rfl) | exact Or.inr (Or.inr rfl)) (hd : (x == ("__debug__" : Str)) = false := by decide)
    (hcd : (x == ("__classdict__" : Str)) = false := by decide) (hb : attributeBase (.Name x p1) f X.env (eval (.Name x p1) X.env) = eval (.Name x p1) X.env := by rfl) : PDE X (.Attribute (.Name x p1) f pos) (tFld X.K (tVar i) f) (dFldP i c flds j) :=
  ⟨pe_fld (pv i hN hv hd hcd) hb, se_fldP i I hf⟩
theorem s_fldN {c f x : Str} {flds : List Str} (i j : Nat) (I : Ci X.K c flds) (h : PDE X e t T) (hf : flds[j]? = some f := by rfl) (hN : X.N[i]? = some x := by rfl) (hv : Vis X.env.scope x := by first | exact Or.inl rfl | exact Or.inr (Or.inl rfl) | exact Or.inr (Or.inr rfl)) (hd : (x == ("__debug__" : Str)) = false := by decide)
    (hcd : (x == ("__classdict__" : Str)) = false := by decide) (hs : swapsWith e (some (.Attribute (.Name x p1) f p2)) pos.line X.env = pure false := by rfl) :
    PDS X ξ (.Assign [.Attribute (.Name x p1) f p2] e pos) (sFld X.K (tVar i) t f) (dFldN i c f flds j T) :=
  ⟨ps_fld (pv i hN hv hd hcd) h.p hs, ss_fldN i I hf h.s⟩
end

/-! ### self.f = e in __init__, e may raise -/
section
variable {K : PySem.W.Frag} {ω : Wm} {t : TE} {TX : DX}
theorem sox_frz (h : SOX K ω t TX) : ∀ y Hf aS Γ σ H (Φ : D → Ev → Prop) (Ψ : Xc → Ev → Prop) (Q : VK), At K y Hf aS Γ σ H → TX Γ (frzB Φ) Ψ →
    (∀ d Γ' v Hf' H', At K y Hf' aS Γ' σ H' → Same Hf Hf' → Keep aS H H' → Rep K Hf' v d → Φ d Γ' → Q v H') →
    (∀ x Γ' Hf' H' C dd, At K y Hf' aS Γ' σ H' → ω.mg x.c = some (.ref C) → XdAt K Hf' dd x.fs → Ψ x Γ' → ω.W (.ref C) dd σ H') → t σ H Q := fun y Hf aS Γ σ H Φ Ψ Q A hT k kx =>
  h y Hf aS Γ σ H _ _ _ A hT (fun r Γ1 v Hf1 H1 A1 e1 k1 hb ha hΦ => by
    cases r with
    | fro d => exact k d Γ1 v Hf1 H1 A1 e1 k1 hb hΦ
    | sto => exact hΦ.elim
    | lk d => exact k d Γ1 v Hf1 H1 A1 e1 k1 (lk_sca hb hΦ.1) hΦ.2
    | own o =>
      obtain ⟨a, rfl, h1, h2, h3, h4⟩ := hb
      obtain ⟨Hf2, A2, e2, hr⟩ := A1.freeze h1 h2 h3 h4 ha
      exact k o.d Γ1 _ Hf2 H1 A2 (e1.trans e2) k1 hr hΦ) kx
def nxFld (i : Nat) (c f : Str) (flds : List Str) (j : Nat) (De : En) (d : D) (Γ1 : Ev) : Prop := match Γ1.sl[i]?, Γ1.hp.l with
  | some (some (.fro (.ptr a))), (a', .ins c' fs) :: r => a' = a ∧ c' = c ∧ fs.map (·.1) = flds.take j ∧ De.nx (Γ1.hs ((a', .ins c' (fs ++ [(f, d)])) :: r))
  | _, _ => False
def dFldNX (i : Nat) (c f : Str) (flds : List Str) (j : Nat) (T : DX) : DS := fun De Γ => T Γ (frzB (nxFld i c f flds j De)) De.ex
theorem ss_fldNX {c f : Str} {flds : List Str} {j : Nat} (i : Nat) (I : Ci K c flds) (hf : flds[j]? = some f) (h : SOX K ω t TX) : SS K ω (sFld K (tVar i) t f) (dFldNX i c f flds j TX) := by
  intro y Hf aS Γ σ H De Dn A hT L
  refine sox_frz h y Hf aS Γ σ H _ _ _ A hT (fun d Γ1 w Hf1 H1 A1 e1 k1 r1 hT1 => ?_) fun x Γ1 Hf1 H1 C dd A1 m1 d1 q => L.ex Hf1 aS Γ1 σ H1 x C dd A1 m1 d1 q
  have g : SE K (fun σ' H' Q' => σ' = σ ∧ H' = H1 ∧ Q' w H1) (fun Γ' Φ => Γ' = Γ1 ∧ Φ d Γ1) → True := fun _ => trivial
  unfold nxFld at hT1
  split at hT1
  · rename_i a a' c' fs r q1 q2
    obtain ⟨rfl, rfl, hk, hn⟩ := hT1
    obtain ⟨u, hu, hb⟩ := A1.slot i _ q1
    have hb : Rep K Hf1 u (.ptr a') := hb
    cases hb
    obtain ⟨⟨C', dx, vs, g', ha, rf⟩, _, _, _⟩ := A1.hpo (n := 0) (by rw [q2]; rfl)
    obtain ⟨C, g, cl, na⟩ := I.ex
    have eC := g.uniq g'
    subst eC
    have hj := (List.getElem?_eq_some_iff.mp hf).1
    have hnew : f ∉ vs.map (·.1) := by
      rw [rf.keys, hk]
      intro hm
      obtain ⟨m, hm⟩ := List.getElem?_of_mem hm
      have hml := (List.getElem?_eq_some_iff.mp hm).1
      rw [List.length_take] at hml
      rw [List.getElem?_take, if_pos (by omega)] at hm
      have nd := I.nd
      have e3 : flds[m]? = flds[j]? := by rw [hm, hf]
      have := (List.getElem?_inj (by omega) nd).mp e3
      omega
    have hlen : vs.length < 1000 := by
      have e3 := congrArg List.length (rf.keys.trans hk)
      rw [List.length_map, List.length_take] at e3
      have := I.le
      omega
    have A2 := A1.hput (n := 0) (o' := .ins c' (fs ++ [(f, d)])) (u := .ins C dx (putF f w vs)) (by rw [q2]; rfl) ⟨C, dx, _, g, upd_same, by rw [putF_new hnew]; exact rf.app1 r1⟩
    rw [q2] at A2
    exact ⟨_, hu, a', C, dx, vs, rfl, ha, cl, na f (List.mem_of_getElem? hf), hlen, L.nx Hf1 aS _ σ _ A2 hn⟩
  · exact hT1.elim
end
section
variable {X : Cx} {ξ : WX} {e : Expr} {t : TE} {TX : DX} {pos p1 p2 : Pos}
theorem s_fldNX {c f x : Str} {flds : List Str} (i j : Nat) (I : Ci X.K c flds) (h : PDX X ξ e t TX) (hf : flds[j]? = some f := by rfl) (hN : X.N[i]? = some x := by rfl) (hv : Vis X.env.scope x := by first | exact Or.inl rfl | exact Or.inr (Or.inl rfl) | exact Or.inr (Or.inr rfl)) (hd : (x == ("__debug__" : Str)) = false := by decide)
    (hcd : (x == ("__classdict__" : Str)) = false := by decide) (hs : swapsWith e (some (.Attribute (.Name x p1) f p2)) pos.line X.env = pure false := by rfl) :
    PDS X ξ (.Assign [.Attribute (.Name x p1) f p2] e pos) (sFld X.K (tVar i) t f) (dFldNX i c f flds j TX) :=
  ⟨ps_fld (pv i hN hv hd hcd) h.p hs, ss_fldNX i I hf h.s⟩
end

/-! ### o.m(..) -/
def tMethS (K : PySem.W.Frag) (c nm : Str) (sp : Sp) (E : L2.St → XK) (ta : TE) (t : TA) : TE := fun σ H Q => ∃ C, cAt K c C ∧ ta σ H fun x H1 => ∃ a dx fs, x = .ref a ∧ H1 a = some (.ins C dx fs) ∧ fs.lookup nm = none ∧ t σ H1 fun vs H2 => sp (x :: vs) H2 Q (E σ)
def dMeth (c : Str) (flds : List Str) (m : MX) (T : DE) (U : DA) : DX := fun Γ Φ Ψ => T Γ fun d Γ1 => isI c flds d ∧ U Γ1 fun ds Γ2 => m (d :: ds) (fun b => Φ b Γ2) fun x => Ψ x Γ2
def dMethN (c : Str) (flds : List Str) (m : MX) (T : DE) (U : DA) : DO := fun Γ Φ => T Γ fun d Γ1 => isI c flds d ∧ U Γ1 fun ds Γ2 => m (d :: ds) (fun b => Φ b Γ2) fun _ => False
section
variable {K : PySem.W.Frag} {ω : Wm} {mg : Str → Option Value} {t : TE} {ta : TA} {T : DE} {U : DA} {ms : List Bool} {m : MX}
theorem sox_meth {c nm : Str} {flds : List Str} {C : Addr} (g : cAt K c C) (nf : nm ∉ flds) (h : SQ K t T) (h2 : SMA K ms ta U) (mono : MonoX m) : SOX K ω (tMethS K c nm (spQ K ω.mg (false :: ms) m) (WE ω.W) t ta) (dMeth c flds m T U) := by
  intro y Hf aS Γ σ H Φ Ψ Q A hT k kx
  refine ⟨C, g, h y Hf aS Γ σ H _ _ A hT fun d Γ1 v Hf1 H1 A1 e1 k1 r1 ⟨⟨fs, ed, hk⟩, hT1⟩ => ?_⟩
  subst ed
  obtain ⟨a, C', dx, vs, rfl, g', ha, rf⟩ := r1.ins A1.co
  have eC := g.uniq g'
  subst eC
  refine ⟨a, dx, vs, rfl, ha, look_none (by rw [rf.keys, hk]; exact nf), h2 y Hf1 aS Γ1 σ H1 _ _ A1 hT1 fun ds Γ2 us Hf2 H2 A2 e2 k2 r2 kp hT2 => ?_⟩
  refine ⟨Hf2, _ :: ds, A2.co.frz, .cons (r1.mono e2 k2).l r2.l, .cons (fun z => nomatch z) kp, mono _ _ _ _ _ (fun b hb v H' Hf' c' b' => ?_) (fun x hx C dd H' Hf' hm c' hd => ?_) hT2⟩
  · have c2 := A2.co.put c'
    have q := back_b A2 c' b'
    exact k b Γ2 v Hf' H' (A2.behind c2) ((e1.trans e2).trans c'.mon) ((k1.trans k2).trans c2.keep) q.1 q.2 hb
  · exact kx x Γ2 Hf' H' C dd (A2.behind (A2.co.put c')) hm hd hx
theorem so_methN {c nm : Str} {flds : List Str} {C : Addr} (g : cAt K c C) (nf : nm ∉ flds) (h : SQ K t T) (h2 : SMA K ms ta U) (mono : MonoX m) : SO K (tMethS K c nm (spQ K mg (false :: ms) m) (fun _ => E0) t ta) (dMethN c flds m T U) := by
  intro y Hf aS Γ σ H Φ Q A hT k
  refine ⟨C, g, h y Hf aS Γ σ H _ _ A hT fun d Γ1 v Hf1 H1 A1 e1 k1 r1 ⟨⟨fs, ed, hk⟩, hT1⟩ => ?_⟩
  subst ed
  obtain ⟨a, C', dx, vs, rfl, g', ha, rf⟩ := r1.ins A1.co
  have eC := g.uniq g'
  subst eC
  refine ⟨a, dx, vs, rfl, ha, look_none (by rw [rf.keys, hk]; exact nf), h2 y Hf1 aS Γ1 σ H1 _ _ A1 hT1 fun ds Γ2 us Hf2 H2 A2 e2 k2 r2 kp hT2 => ?_⟩
  refine ⟨Hf2, _ :: ds, A2.co.frz, .cons (r1.mono e2 k2).l r2.l, .cons (fun z => nomatch z) kp, mono _ _ _ _ _ (fun b hb v H' Hf' c' b' => ?_) (fun x hx => hx.elim) hT2⟩
  have c2 := A2.co.put c'
  have q := back_b A2 c' b'
  exact k b Γ2 v Hf' H' (A2.behind c2) ((e1.trans e2).trans c'.mon) ((k1.trans k2).trans c2.keep) q.1 q.2 hb
end
section
variable {X : Cx} {ξ : WX} {CX : CXT} {e o : Expr} {es : List Expr} {ta : TE} {t : TA} {T : DE} {U : DA} {pos apos : Pos} {c nm : Str} {flds : List Str} {k : Nat} {f C : Addr} {fd : FuncData} {ps : List Str} {sp : Sp} {E : L2.St → XK}
theorem pe_methS {pl : Sem Bool} (he : PE X o ta) (g : cAt X.K c C) (cl : Cls X.K C) (hm : Meth X.K C nm f) (F : FnOk X.prog X.w X.K X.mg X.base CX k f fd ps sp) (hr : Room k X.A) (hb : Binds X.K fd ps []) (hx : ∀ σ, PassesAt CX X σ (E σ)) (ha : PA X (e :: es) t)
    (hst : starEach (e :: es) X.env = (false, eval e X.env) :: starEach es X.env := by rfl) (hpl : (backTo pos (starEach es X.env)).any (·.1) = false := by rfl)
    (ht : eval (.Call (.Attribute o nm apos) (e :: es) [] pos) X.env = (do
      let ov ← eval o X.env
      standAt apos.atName
      let (f, first) ← holding [ov] (getMethod ov nm pl)
      callWith pos f first (backTo pos (starEach (e :: es) X.env)) (backToKw pos (keywordEach [] X.env))) := by rfl) :
    PE X (.Call (.Attribute o nm apos) (e :: es) [] pos) (tMethS X.K c nm sp E ta t) := by
  refine ⟨fun pins s σ H Q I ⟨C', g', h⟩ => ?_⟩
  have eC := g.uniq g'
  subst eC
  refine PySem.W.methodCall_KW (pl := pl) (thn (he.run pins s σ H _ I h) fun u s1 ⟨x, H1, I1, rx, a, dx, fs, ex, ea, l, q⟩ => ?_) ht
  subst ex
  obtain rfl : u = Value.ref a := rx
  refine getmeth_ok I1 ea cl hm l ?_
  refine PySem.W.callWith_K (first := [.ref a]) (h₀ := X.base) I.ok.mod.kin hm.kp (thn (ha.run pos pins s1 σ H1 _ I1 q) fun us s2 ⟨vs, H2, I2, r, q2⟩ => ⟨I2.kIn, ?_⟩) hst hpl
  exact run_fnS (us := .ref a :: us) (vs := .ref a :: vs) F hr hb (hx σ) I2 (.cons rfl r) q2
theorem pe_methS0 {pl : Sem Bool} (he : PE X o ta) (g : cAt X.K c C) (cl : Cls X.K C) (hm : Meth X.K C nm f) (F : FnOk X.prog X.w X.K X.mg X.base CX k f fd ps sp) (hr : Room k X.A) (hb : Binds X.K fd ps []) (hx : ∀ σ, PassesAt CX X σ (E σ))
    (ht : eval (.Call (.Attribute o nm apos) [] [] pos) X.env = (do
      let ov ← eval o X.env
      standAt apos.atName
      let (f, first) ← holding [ov] (getMethod ov nm pl)
      callWith pos f first (backTo pos (starEach [] X.env)) (backToKw pos (keywordEach [] X.env))) := by rfl) :
    PE X (.Call (.Attribute o nm apos) [] [] pos) (tMethS X.K c nm sp E ta tNil) := by
  refine ⟨fun pins s σ H Q I ⟨C', g', h⟩ => ?_⟩
  have eC := g.uniq g'
  subst eC
  refine PySem.W.methodCall_KW (pl := pl) (thn (he.run pins s σ H _ I h) fun u s1 ⟨x, H1, I1, rx, a, dx, fs, ex, ea, l, q⟩ => ?_) ht
  subst ex
  obtain rfl : u = Value.ref a := rx
  refine getmeth_ok I1 ea cl hm l ?_
  exact PySem.W.callWith_K0 (first := [.ref a]) I1.kIn hm.kp (run_fnS (us := [.ref a]) (vs := [.ref a]) F hr hb (hx σ) I1 (.cons rfl .nil) q)
theorem passNS {X : Cx} (σ : L2.St) : PassesAt (L2N.CX X.prog X.w) X σ E0 := fun _ _ _ _ _ _ h => by
  obtain ⟨_, _, _, _, _, _, _, _, _, _, _, _, z⟩ := h
  exact z.elim
variable {ms : List Bool} {m : MX} {j kk : Nat}
theorem x_meth {pl : Sem Bool} (F : Fm X.prog X.w X.K X.mg X.base j c nm flds ms m) (hr : Room kk X.A) (hj : j ≤ kk) (tk : L2N.Takes X ξ) (ho : PDQ X o ta T) (ha : PDMA X (e :: es) ms t U)
    (hst : starEach (e :: es) X.env = (false, eval e X.env) :: starEach es X.env := by rfl) (hpl : (backTo pos (starEach es X.env)).any (·.1) = false := by rfl)
    (ht : eval (.Call (.Attribute o nm apos) (e :: es) [] pos) X.env = (do
      let ov ← eval o X.env
      standAt apos.atName
      let (f, first) ← holding [ov] (getMethod ov nm pl)
      callWith pos f first (backTo pos (starEach (e :: es) X.env)) (backToKw pos (keywordEach [] X.env))) := by rfl) :
    PDX X ξ (.Call (.Attribute o nm apos) (e :: es) [] pos) (tMethS X.K c nm (spQ X.K X.mg (false :: ms) m) (WE ξ) ta t) (dMeth c flds m T U) := by
  obtain ⟨C, f, fd, ps, g, cl, hm, G, b⟩ := F.ex
  exact ⟨pe_methS ho.p g cl hm G (hr.mono hj) b (fun σ => L2N.passAt tk σ) ha.p hst hpl ht, sox_meth (ω := ⟨X.mg, ξ⟩) g F.nf ho.s ha.s F.mono⟩
theorem x_meth0 {pl : Sem Bool} (F : Fm X.prog X.w X.K X.mg X.base j c nm flds [] m) (hr : Room kk X.A) (hj : j ≤ kk) (tk : L2N.Takes X ξ) (ho : PDQ X o ta T)
    (ht : eval (.Call (.Attribute o nm apos) [] [] pos) X.env = (do
      let ov ← eval o X.env
      standAt apos.atName
      let (f, first) ← holding [ov] (getMethod ov nm pl)
      callWith pos f first (backTo pos (starEach [] X.env)) (backToKw pos (keywordEach [] X.env))) := by rfl) :
    PDX X ξ (.Call (.Attribute o nm apos) [] [] pos) (tMethS X.K c nm (spQ X.K X.mg [false] m) (WE ξ) ta tNil) (dMeth c flds m T dNil) := by
  obtain ⟨C, f, fd, ps, g, cl, hm, G, b⟩ := F.ex
  exact ⟨pe_methS0 ho.p g cl hm G (hr.mono hj) b (fun σ => L2N.passAt tk σ) ht, sox_meth (ω := ⟨X.mg, ξ⟩) g F.nf ho.s sqa_nil.m F.mono⟩
theorem o_meth {pl : Sem Bool} (F : Fm X.prog X.w X.K X.mg X.base j c nm flds ms m) (hr : Room kk X.A) (hj : j ≤ kk) (ho : PDQ X o ta T) (ha : PDMA X (e :: es) ms t U)
    (hst : starEach (e :: es) X.env = (false, eval e X.env) :: starEach es X.env := by rfl) (hpl : (backTo pos (starEach es X.env)).any (·.1) = false := by rfl)
    (ht : eval (.Call (.Attribute o nm apos) (e :: es) [] pos) X.env = (do
      let ov ← eval o X.env
      standAt apos.atName
      let (f, first) ← holding [ov] (getMethod ov nm pl)
      callWith pos f first (backTo pos (starEach (e :: es) X.env)) (backToKw pos (keywordEach [] X.env))) := by rfl) :
    PDO X (.Call (.Attribute o nm apos) (e :: es) [] pos) (tMethS X.K c nm (spQ X.K X.mg (false :: ms) m) (fun _ => E0) ta t) (dMethN c flds m T U) := by
  obtain ⟨C, f, fd, ps, g, cl, hm, G, b⟩ := F.ex
  exact ⟨pe_methS ho.p g cl hm G (hr.mono hj) b (fun σ => passNS σ) ha.p hst hpl ht, so_methN g F.nf ho.s ha.s F.mono⟩
theorem o_meth0 {pl : Sem Bool} (F : Fm X.prog X.w X.K X.mg X.base j c nm flds [] m) (hr : Room kk X.A) (hj : j ≤ kk) (ho : PDQ X o ta T)
    (ht : eval (.Call (.Attribute o nm apos) [] [] pos) X.env = (do
      let ov ← eval o X.env
      standAt apos.atName
      let (f, first) ← holding [ov] (getMethod ov nm pl)
      callWith pos f first (backTo pos (starEach [] X.env)) (backToKw pos (keywordEach [] X.env))) := by rfl) :
    PDO X (.Call (.Attribute o nm apos) [] [] pos) (tMethS X.K c nm (spQ X.K X.mg [false] m) (fun _ => E0) ta tNil) (dMethN c flds m T dNil) := by
  obtain ⟨C, f, fd, ps, g, cl, hm, G, b⟩ := F.ex
  exact ⟨pe_methS0 ho.p g cl hm G (hr.mono hj) b (fun σ => passNS σ) ht, so_methN g F.nf ho.s sqa_nil.m F.mono⟩
end

/-! ### o.p, a property that raises nothing -/
def tPropS (K : PySem.W.Frag) (c : Str) (sp : Sp) (ta : TE) : TE := fun σ H Q => ∃ C, cAt K c C ∧ tProp C sp [] E0 ta σ H Q
def dProp (c : Str) (m : MX) (T : DE) : DO := fun Γ Φ => T Γ fun d Γ1 => (∃ fs, d = .ins c fs) ∧ m [d] (fun b => Φ b Γ1) fun _ => False
theorem so_prop {K : PySem.W.Frag} {mg : Str → Option Value} {t : TE} {T : DE} {m : MX} {c : Str} {C : Addr} (g : cAt K c C) (h : SQ K t T) (mono : MonoX m) : SO K (tPropS K c (spQ K mg [] m) t) (dProp c m T) := by
  intro y Hf aS Γ σ H Φ Q A hT k
  refine ⟨C, g, h y Hf aS Γ σ H _ _ A hT fun d Γ1 v Hf1 H1 A1 e1 k1 r1 ⟨⟨fs, ed⟩, hT1⟩ => ?_⟩
  subst ed
  obtain ⟨a, C', dx, vs, rfl, g', ha, rf⟩ := r1.ins A1.co
  have eC := g.uniq g'
  subst eC
  refine ⟨a, dx, vs, rfl, ha, Hf1, [_], A1.co.frz, .cons r1.l .nil, Kept.nil, mono _ _ _ _ _ (fun b hb v H' Hf' c' b' => ?_) (fun x hx => hx.elim) hT1⟩
  have c2 := A1.co.put c'
  have q := back_b A1 c' b'
  exact k b Γ1 v Hf' H' (A1.behind c2) (e1.trans c'.mon) (k1.trans c2.keep) q.1 q.2 hb
theorem o_prop {X : Cx} {e : Expr} {t : TE} {T : DE} {pos : Pos} {m : MX} {c nm : Str} {j kk : Nat} (F : Fr X.prog X.w X.K X.mg X.base j c nm m) (hr : Room kk X.A) (hj : j + 1 ≤ kk) (h : PDQ X e t T) (hab : attributeBase e nm X.env (eval e X.env) = eval e X.env := by rfl) :
    PDO X (.Attribute e nm pos) (tPropS X.K c (spQ X.K X.mg [] m) t) (dProp c m T) := by
  obtain ⟨C, p, f, fd, ps, g, cl, hp, G, b⟩ := F.ex
  refine ⟨⟨fun pins s σ H Q I ⟨C', g', hh⟩ => ?_⟩, so_prop g h.s F.mono⟩
  have eC := g.uniq g'
  subst eC
  exact (pe_prop h.p cl hp G (hr.mono hj) b .nil (passN (X := X.nox)) hab).run pins s σ H Q I hh

/-! ### C(..) -/
structure PDK (X : Cx) (kws : List Keyword) (t : TA) (T : DA) : Prop where
  p : PK X kws t
  s : SQA X.K t T
theorem k_nil {X : Cx} : PDK X [] tNil dNil := ⟨pk_nil, sqa_nil⟩
theorem k_cons {X : Cx} {e : Expr} {t : TE} {T : DE} {kws : List Keyword} {ts : TA} {Ts : DA} {nm : Option Str} {kpos : Pos} (h : PDQ X e t T) (g : PDK X kws ts Ts) : PDK X (⟨nm, e, kpos⟩ :: kws) (tCons t ts) (dCons T Ts) := ⟨pk_cons h.p g.p, sqa_cons h.s g.s⟩
def tMkS (K : PySem.W.Frag) (c : Str) (n m : Nat) (sp : Sp) (gV : List V → List V → List V) (E : L2.St → XK) (t tk : TA) : TE := fun σ H Q => ∃ C, cAt K c C ∧ t σ H fun vs H1 => tk σ H1 fun zs H2 => vs.length = n ∧ zs.length = m ∧ ∀ x dx, H2 x = none → H2 dx = none → dx ≠ x →
  sp (gV (.ref x :: vs) zs) (upd (upd H2 dx (.own x)) x (.ins C dx [])) (fun v H3 => v = .non ∧ Q (.ref x) H3) (E σ)
def dMk (c : Str) (n k : Nat) (dds : List D) (m : MI) (T U : DA) : DX := fun Γ Φ Ψ => T Γ fun ds Γ1 => U Γ1 fun es Γ2 => ds.length = n ∧ es.length = k ∧ m (ds ++ dds ++ es) (fun fs => Φ (.own (.ins c fs)) Γ2) fun x => Ψ x Γ2
def dMkN (c : Str) (n k : Nat) (dds : List D) (m : MI) (T U : DA) : DO := fun Γ Φ => T Γ fun ds Γ1 => U Γ1 fun es Γ2 => ds.length = n ∧ es.length = k ∧ m (ds ++ dds ++ es) (fun fs => Φ (.own (.ins c fs)) Γ2) fun _ => False
section
variable {K : PySem.W.Frag} {ω : Wm} {t tk : TA} {T U : DA} {m : MI} {c : Str} {C : Addr} {dvs : List V} {dds : List D} {n k : Nat} {ms : List Bool}
theorem sox_mk (g : cAt K c C) (hd : ∀ H : Hp, RepL K H dvs dds) (hz : ms.length ≤ n) (h : SMA K ms t T) (h2 : SQA K tk U) (mono : MonoI m) :
    SOX K ω (tMkS K c n k (spN K ω.mg c ms m) (fun vs zs => vs ++ dvs ++ zs) (WE ω.W) t tk) (dMk c n k dds m T U) := by
  intro y Hf aS Γ σ H Φ Ψ Q A hT kk kx
  refine ⟨C, g, h y Hf aS Γ σ H _ _ A hT fun ds Γ1 vs Hf1 H1 A1 e1 k1 r1 kp hT1 => h2 y Hf1 aS Γ1 σ H1 _ _ A1 hT1 fun es Γ2 zs Hf2 H2 A2 e2 k2 r2 ⟨l1, l2, hT2⟩ => ?_⟩
  have r1l : LRepL K Hf2 H2 vs ds := by
    have up : ∀ {vs : List V} {ds : List D}, PRepL K Hf1 aS H1 vs ds → LRepL K Hf2 H2 vs ds := fun {vs ds} r => by
      induction r with
      | nil => exact .nil
      | cons h _ ih => exact .cons (h.mono e2 k2).l ih
    exact up r1
  refine ⟨by rw [r1l.len]; exact l1, by rw [r2.l.len]; exact l2, fun x dx hx hdx hne => ?_⟩
  have sub : ∀ a u, H2 a = some u → less (upd (upd H2 dx (.own x)) x (.ins C dx [])) x a = some u := fun a u h => by
    have n1 : a ≠ x := ne_of_none h hx
    have n2 : a ≠ dx := ne_of_none h hdx
    rw [less_ne n1, upd_ne n1, upd_ne n2]
    exact h
  have fin : ∀ {Hf' H' : Hp}, Co ⟨less (upd (upd H2 dx (.own x)) x (.ins C dx [])) x, Hf2, none⟩ Hf' none none H' → Co ⟨H2, Hf2, none⟩ Hf' none none H' := fun c' => c'.sub sub
  refine ⟨x, C, dx, vs ++ dvs ++ zs, Hf2, ds ++ dds ++ es, by simp, g, upd_same, A2.co.frzn hx, fun a o h => ?_, ?_, ?_, mono _ _ _ _ _ (fun fs hΦ H' Hf' dx' vfs c' hfx hx' rf => ⟨rfl, ?_⟩) (fun xx hx2 Cx dd H' Hf' hm c' hxd => ?_) hT2⟩
  · have := A2.co.frz a o h
    rw [upd_ne (ne_of_none this hx), upd_ne (ne_of_none this hdx)]
    exact this
  · exact ((r1l.up sub (Same.refl _)).app (hd _).l).app (r2.l.up sub (Same.refl _))
  · intro i v d h1 hv hd'
    have hi := (List.getElem?_eq_some_iff.mp h1).1
    have hl1 := r1l.len
    rw [List.append_assoc, List.getElem?_append_left (by omega)] at hv hd'
    exact (kp i v d h1 hv hd').mono e2
  · have c2 := A2.co.put (fin c')
    exact kk (.own (.ins c fs)) Γ2 (.ref x) Hf' H' (A2.behind c2) ((e1.trans e2).trans c'.mon) ((k1.trans k2).trans c2.keep) ⟨x, rfl, ⟨C, dx', vfs, g, hx', rf⟩, hfx, A2.co.old hx, A2.co.sne hx⟩ (A2.apart (o := .lst []) hx) hΦ
  · exact kx xx Γ2 Hf' H' Cx dd (A2.behind (A2.co.put (fin c'))) hm hxd hx2
theorem so_mkN {mg : Str → Option Value} (g : cAt K c C) (hd : ∀ H : Hp, RepL K H dvs dds) (hz : ms.length ≤ n) (h : SMA K ms t T) (h2 : SQA K tk U) (mono : MonoI m) :
    SO K (tMkS K c n k (spN K mg c ms m) (fun vs zs => vs ++ dvs ++ zs) (fun _ => E0) t tk) (dMkN c n k dds m T U) := by
  intro y Hf aS Γ σ H Φ Q A hT kk
  have := sox_mk (ω := ⟨mg, fun c d _ H => E0 c d H⟩) (n := n) (k := k) g hd hz h h2 mono y Hf aS Γ σ H Φ (fun _ _ => False) Q A hT kk fun x Γ' Hf' H' C dd A' hm hx z => z.elim
  exact this
end
section
variable {X : Cx} {ξ : WX} {CX : CXT} {k n : Nat} {f C : Addr} {fd : FuncData} {ps ks : List Str} {sp : Sp} {E : L2.St → XK} {c : Str} {p pos : Pos} {e : Expr} {es : List Expr} {kws : List Keyword} {t tk : TA} {T U : DA} {g : List Value → List Value → List Value} {gV : List V → List V → List V}
theorem run_makeS {pins : List (Addr × Obj)} {σ : L2.St} {H : Hp} {s : Shared} {Q : VK} {us ws : List Value} {vs zs : List V} (M : Mk X.K C f) (F : FnOk X.prog X.w X.K X.mg X.base CX k f fd ps sp) (hr : Room (k + 1) X.A) (hb : KBn X.K fd ps (n + 1) ks g gV) (hx : ∀ σ, PassesAt CX X σ (E σ))
    (I : Inv X pins σ H s) (r : Vals vs us) (rz : Vals zs ws) (l1 : vs.length = n) (l2 : zs.length = ks.length)
    (h : ∀ x dx, H x = none → H dx = none → dx ≠ x → sp (gV (.ref x :: vs) zs) (upd (upd H dx (.own x)) x (.ins C dx [])) (fun v H2 => v = .non ∧ Q (.ref x) H2) (E σ)) :
    wpAny (model X.prog X.w) X.A (call (.ref C) us (ks.zip ws)) (EP X pins σ Q) X.xe s := by
  have hq := h (s.heap.objs.size + 1) s.heap.objs.size (I.hok.fresh (Nat.le_succ _)) (I.hok.fresh (Nat.le_refl _)) (Nat.ne_of_lt (Nat.lt_succ_self _))
  have I2 := Inv.made (C := C) I
  have r1 : Vals (V.ref (s.heap.objs.size + 1) :: vs) (Value.ref (s.heap.objs.size + 1) :: us) := .cons rfl r
  have r2 := hb.rel r1 rz
  have n1 : (Value.ref (s.heap.objs.size + 1) :: us).length = n + 1 := by
    rw [List.length_cons, ← r.length, l1]
  refine wpAny_call (make_map (f := f) I.kIn M.makes M.init (beq_iff_eq.mp M.fn) (codeAny_mono (F.run _ X.stack _ _ ⟨Value.ref (s.heap.objs.size + 1) :: us, ks.zip ws⟩ (g (Value.ref (s.heap.objs.size + 1) :: us) ws) _ _ (E σ) (hr.make C us (ks.zip ws))
    (I2.env0.make C us (ks.zip ws)) (hb.to _ (Value.ref (s.heap.objs.size + 1) :: us) ws I2.kIn n1 (rz.length.symm.trans l2)) r2 hq) fun r s' hq' => ?_))
  cases r with
  | error e => exact hx σ pins _ _ e s' I2 hq'
  | ok fl =>
    cases fl with
    | ret u =>
      obtain ⟨v, H', I3, rv, ev, q3⟩ := I2.after hq'
      subst ev
      exact ⟨rv, ⟨V.ref (s.heap.objs.size + 1), H', I3, rfl, q3⟩⟩
    | next => exact False.elim hq'
    | brk => exact False.elim hq'
    | cont => exact False.elim hq'
theorem pe_mkS (hc : cAt X.K c C) (M : Mk X.K C f) (F : FnOk X.prog X.w X.K X.mg X.base CX k f fd ps sp) (hr : Room (k + 1) X.A) (hg : Gl X c) (hm : X.mg c = some (.ref C)) (hb : KBn X.K fd ps (n + 1) ks g gV) (hx : ∀ σ, PassesAt CX X σ (E σ)) (ha : PA X (e :: es) t) (hkw : PK X kws tk)
    (hall : (backToKw pos (keywordEach kws X.env)).all (·.1.isSome) = true) (hks : (backToKw pos (keywordEach kws X.env)).filterMap (·.1) = ks) (hdb : (c == ("__debug__" : Str)) = false)
    (he : starEach (e :: es) X.env = (false, eval e X.env) :: starEach es X.env) (hpl : ((backTo pos (starEach (e :: es) X.env)).any (·.1) || (backToKw pos (keywordEach kws X.env)).any (·.1.isNone)) = false) :
    PE X (.Call (.Name c p) (e :: es) kws pos) (tMkS X.K c n ks.length sp gV E t tk) := by
  refine ⟨fun pins s σ H Q I ⟨C', g', h⟩ => ?_⟩
  have eC := hc.uniq g'
  subst eC
  refine wpAny_Call_Name_kw (ld_glob I hg hm ?_ hdb)
  refine PySem.W.callWith_KW (h₀ := X.base) I.ok.mod.kin M.kp hall (thn (ha.run pos pins s σ H _ I h) fun us s1 ⟨vs, H1, I1, r, q⟩ => ?_) hpl he
  refine thn (hkw.run pos pins s1 σ H1 _ I1 q) fun ws s2 ⟨zs, H2, I2, rz, l1, l2, q2⟩ => ⟨I2.kIn, ?_⟩
  rw [hks]
  exact run_makeS M F hr hb hx I2 r rz l1 l2 q2
theorem x_mk {j kk : Nat} {dds : List D} {ms : List Bool} {m : MI} (F : Fk X.prog X.w X.K X.mg X.base j c n ks dds ms m) (hr : Room kk X.A) (hj : j + 1 ≤ kk) (tk' : L2N.Takes X ξ) (ha : PDMA X (e :: es) ms t T) (hk : PDK X kws tk U) (hg : Gl X c := by rfl)
    (hall : (backToKw pos (keywordEach kws X.env)).all (·.1.isSome) = true := by rfl) (hks : (backToKw pos (keywordEach kws X.env)).filterMap (·.1) = ks := by rfl) (hdb : (c == ("__debug__" : Str)) = false := by decide)
    (he : starEach (e :: es) X.env = (false, eval e X.env) :: starEach es X.env := by rfl) (hpl : ((backTo pos (starEach (e :: es) X.env)).any (·.1) || (backToKw pos (keywordEach kws X.env)).any (·.1.isNone)) = false := by rfl) :
    PDX X ξ (.Call (.Name c p) (e :: es) kws pos) (tMkS X.K c n ks.length (spN X.K X.mg c ms m) (fun vs zs => vs ++ dds.map scaV ++ zs) (WE ξ) t tk) (dMk c n ks.length dds m T U) := by
  obtain ⟨C, f, fd, ps, g, hc, hm, M, G, b⟩ := F.ex
  exact ⟨pe_mkS hc M G (hr.mono hj) hg hm b (fun σ => L2N.passAt tk' σ) ha.p hk.p hall hks hdb he hpl, sox_mk (ω := ⟨X.mg, ξ⟩) hc (fun _ => rep_sca F.dv) F.mz ha.s hk.s F.mono⟩
theorem o_mk {j kk : Nat} {dds : List D} {ms : List Bool} {m : MI} (F : Fk X.prog X.w X.K X.mg X.base j c n ks dds ms m) (hr : Room kk X.A) (hj : j + 1 ≤ kk) (ha : PDMA X (e :: es) ms t T) (hk : PDK X kws tk U) (hg : Gl X c := by rfl)
    (hall : (backToKw pos (keywordEach kws X.env)).all (·.1.isSome) = true := by rfl) (hks : (backToKw pos (keywordEach kws X.env)).filterMap (·.1) = ks := by rfl) (hdb : (c == ("__debug__" : Str)) = false := by decide)
    (he : starEach (e :: es) X.env = (false, eval e X.env) :: starEach es X.env := by rfl) (hpl : ((backTo pos (starEach (e :: es) X.env)).any (·.1) || (backToKw pos (keywordEach kws X.env)).any (·.1.isNone)) = false := by rfl) :
    PDO X (.Call (.Name c p) (e :: es) kws pos) (tMkS X.K c n ks.length (spN X.K X.mg c ms m) (fun vs zs => vs ++ dds.map scaV ++ zs) (fun _ => E0) t tk) (dMkN c n ks.length dds m T U) := by
  obtain ⟨C, f, fd, ps, g, hc, hm, M, G, b⟩ := F.ex
  exact ⟨pe_mkS hc M G (hr.mono hj) hg hm b (fun σ => passNS σ) ha.p hk.p hall hks hdb he hpl, so_mkN hc (fun _ => rep_sca F.dv) F.mz ha.s hk.s F.mono⟩
end

/-! ### isinstance(x, C), C an own class -/
def bltN : List String := ["NoneType", "bool", "int", "str", "list", "tuple", "dict"]
structure Cy (K : PySem.W.Frag) (cs : List Str) : Prop where
  ex : ∀ c ∈ cs, ∃ C, cAt K c C ∧ Cls K C ∧ PySem.W.findIn K (.ref C) "__class__" = some (some (.builtin "object.__class__")) ∧ PySem.W.mroIn K C (.type "object") = some true
  nn : PySem.W.specialIn K (.builtin "object.__class__") "__get__" = some (some (.builtin "getset_descriptor.__get__"))
  tk : PySem.W.takesIn K (.builtin "object.__class__") = some true
  bt : ∀ c ∈ cs, ∀ C, cAt K c C → ∀ n ∈ bltN, PySem.W.kitOne K (.type n) (.ref C) = some false
  tb : ∀ c ∈ cs, ∀ C, cAt K c C → ∀ T : Ty, PySem.W.kitOne K (.ref C) (.type T.nm) = some false
  oo : ∀ c ∈ cs, ∀ c' ∈ cs, ∀ C C', cAt K c C → cAt K c' C' → PySem.W.kitOne K (.ref C) (.ref C') = some (decide (c = c'))
def dIsO (cs : List Str) (c' : Str) (T : DE) : DO := fun Γ Φ => T Γ fun d Γ1 => ((∃ fs, d = .ins c' fs) ∧ Φ (.fro (.bl true)) Γ1) ∨ ((d.plain = true ∨ ∃ c fs, d = .ins c fs ∧ c ∈ cs ∧ c ≠ c') ∧ Φ (.fro (.bl false)) Γ1)
def tIsO (K : PySem.W.Frag) (c : Str) (t : TE) : TE := fun σ H Q => ∃ C, cAt K c C ∧ tCB (rIsi K) (tCons t (tCons (tC (.ref C)) tNil)) σ H Q
section
variable {K : PySem.W.Frag} {t : TE} {T : DE}
theorem ins_ty {cs : List Str} (Y : Cy K cs) {c : Str} (hc : c ∈ cs) {y : Yn} {Hf H : Hp} {aS : Option Addr} {S : Option Sto} {v : V} {fs : List (Str × D)} (co : Co y Hf aS S H) (h : PRep K Hf aS H v (.ins c fs)) : ∃ C, cAt K c C ∧ TyX K H v (.ref C) := by
  obtain ⟨a, C, dx, vs, rfl, g, ha, _⟩ := h.ins co
  obtain ⟨C', g', cl, h1, h2⟩ := Y.ex c hc
  have e := g.uniq g'
  subst e
  exact ⟨C, g, .base (.ins ha cl h1 Y.nn Y.tk h2)⟩
theorem so_isO {cs : List Str} (Y : Cy K cs) {c' : Str} (hc' : c' ∈ cs) (h : SQ K t T) : SO K (tIsO K c' t) (dIsO cs c' T) := by
  intro y Hf aS Γ σ H Φ Q A hT k
  obtain ⟨C', g', _⟩ := Y.ex c' hc'
  refine ⟨C', g', h y Hf aS Γ σ H _ _ A hT fun d Γ1 v Hf1 H1 A1 e1 k1 r1 hT1 => ?_⟩
  rcases hT1 with ⟨⟨fs, rfl⟩, hΦ⟩ | ⟨hp | ⟨c, fs, rfl, hc, hne⟩, hΦ⟩
  · obtain ⟨C, g, ty⟩ := ins_ty Y hc' A1.co r1
    refine ⟨v, .ref C', .ref C, .ref C', true, rfl, .own C', ty, ?_, k (.fro (.bl _)) Γ1 _ Hf1 H1 A1 e1 k1 (Rep.bl _) trivial hΦ⟩
    rw [Y.oo c' hc' c' hc' C C' g g', decide_eq_true rfl]
  · refine ⟨v, .ref C', .type d.tn, .ref C', false, rfl, .own C', prep_ty A1.co r1 hp, Y.bt c' hc' C' g' _ ?_, k (.fro (.bl _)) Γ1 _ Hf1 H1 A1 e1 k1 (Rep.bl _) trivial hΦ⟩
    cases d <;> first | (cases hp; done) | (simp [bltN, D.tn])
  · obtain ⟨C, g, ty⟩ := ins_ty Y hc A1.co r1
    refine ⟨v, .ref C', .ref C, .ref C', false, rfl, .own C', ty, ?_, k (.fro (.bl _)) Γ1 _ Hf1 H1 A1 e1 k1 (Rep.bl _) trivial hΦ⟩
    rw [Y.oo c hc c' hc' C C' g g', decide_eq_false hne]
/-- isinstance(x, T), x an instance, T a built-in type -/
def dIsaI (T : Ty) (U : DE) : DO := fun Γ Φ => U Γ fun d Γ' => (∃ c fs, d = .ins c fs) ∧ Φ (.fro (.bl false)) Γ'
theorem so_isaI {cs : List Str} (Y : Cy K cs) (T : Ty) {U : DE} (hcs : ∀ c : Str, c ∈ cs) (h : SQ K t U) : SO K (tCB (rIsi K) (tCons t (tCons (tC (.ty T.nm)) tNil))) (dIsaI T U) := fun y Hf aS Γ σ H Φ Q A hT k =>
  h y Hf aS Γ σ H _ _ A hT fun d Γ1 v Hf1 H1 A1 e1 k1 r1 ⟨⟨c, fs, e⟩, hΦ⟩ => by
    subst e
    obtain ⟨C, g, ty⟩ := ins_ty Y (hcs c) A1.co r1
    exact ⟨v, .ty T.nm, .ref C, .type T.nm, false, rfl, .ty _, ty, Y.tb c (hcs c) C g T, k (.fro (.bl _)) Γ1 _ Hf1 H1 A1 e1 k1 (Rep.bl _) trivial hΦ⟩
end
section
variable {X : Cx} {e : Expr} {t : TE} {U : DE} {pos p1 p2 : Pos}
theorem o_isO {cs : List Str} {c' : Str} (Y : Cy X.K cs) (Z : X.mg "isinstance" = none) (G : ∀ C, cAt X.K c' C → X.mg c' = some (.ref C)) (h : PDQ X e t U) (hc : c' ∈ cs := by decide) (hg2 : Gl X c' := by rfl) (hd2 : (c' == ("__debug__" : Str)) = false := by decide) (hg : Gl X "isinstance" := by rfl)
    (hs : starEach [e, .Name c' p2] X.env = (false, eval e X.env) :: starEach [.Name c' p2] X.env := by rfl)
    (hs2 : starEach [.Name c' p2] X.env = (false, eval (.Name c' p2) X.env) :: starEach [] X.env := by rfl) (hpl : (backTo pos (starEach [.Name c' p2] X.env)).any (·.1) = false := by rfl) :
    PDO X (.Call (.Name "isinstance" p1) [e, .Name c' p2] [] pos) (tIsO X.K c' t) (dIsO cs c' U) := by
  refine ⟨⟨fun pins s σ H Q I ⟨C, g, hh⟩ => ?_⟩, so_isO Y hc h.s⟩
  exact (pe_callB call_isi hg Z (by decide +kernel) (pa_cons h.p (pa_cons (pe_glob hg2 (G C g) (show RelV (.ref C) (.ref C) from rfl) hd2) pa_nil hs2) hs) (by decide) (by decide) hs hpl).run pins s σ H Q I hh
end

end
section
/-! DLE: dicts walked under a lock, dict comprehensions, lists that are but looked at walked. -/

/-! ### a dict is locked: the data stay -/
section
variable {K : PySem.W.Frag} {H H' : Hp} {d : Addr} {kvs : List (Key × V)}
structure Swap (d : Addr) (kvs : List (Key × V)) (H H' : Hp) : Prop where
  ne : ∀ a, a ≠ d → H' a = H a
  a : Rd H d (.dK kvs)
  b : Rd H' d (.dK kvs)
theorem Swap.get (s : Swap d kvs H H') {a : Addr} {o : HO} (h : H a = some o) (n1 : ∀ k, o ≠ .dK k) (n2 : ∀ q k, o ≠ .frz q (.dK k)) : H' a = some o := by
  by_cases e : a = d
  · subst e
    rcases s.a with z | ⟨q, z⟩
    · rw [h] at z
      exact absurd (Option.some.inj z) (n1 _)
    · rw [h] at z
      exact absurd (Option.some.inj z) (n2 _ _)
  · rw [s.ne a e]
    exact h
theorem Swap.rd (s : Swap d kvs H H') {a : Addr} {k : List (Key × V)} (h : Rd H a (.dK k)) : Rd H' a (.dK k) := by
  by_cases e : a = d
  · subst e
    have ek : k = kvs := by
      rcases s.a with z | ⟨q, z⟩
      · rcases h with h | ⟨q', h⟩
        · rw [h] at z; cases z; rfl
        · rw [h] at z; cases z
      · rcases h with h | ⟨q', h⟩
        · rw [h] at z; cases z
        · rw [h] at z; cases z; rfl
    rw [ek]
    exact s.b
  · exact h.imp (fun h => by rw [s.ne a e]; exact h) fun ⟨q, h⟩ => ⟨q, by rw [s.ne a e]; exact h⟩
theorem Swap.sq (s : Swap d kvs H H') {a : Addr} {xs : List V} (h : SqL K H a xs) : SqL K H' a xs :=
  h.imp (fun h => h.imp (fun h => s.get h (fun k z => nomatch z) (fun q k z => nomatch z)) fun ⟨q, h⟩ => ⟨q, s.get h (fun k z => nomatch z) (fun q k z => nomatch z)⟩) id
mutual
theorem Rep.swap (s : Swap d kvs H H') : ∀ {v : V} {x : D}, Rep K H v x → Rep K H' v x
  | _, _, .non => .non
  | _, _, .bl b => .bl b
  | _, _, .int i => .int i
  | _, _, .str x => .str x
  | _, _, .lst h r => .lst (s.get h (fun k z => nomatch z) (fun q k z => nomatch z)) (RepL.swap s r)
  | _, _, .tup h r => .tup (s.get h (fun k z => nomatch z) (fun q k z => nomatch z)) (RepL.swap s r)
  | _, _, .dic h r => .dic (s.rd h) (RepK.swap s r)
  | _, _, .ins g h r => .ins g (s.get h (fun k z => nomatch z) (fun q k z => nomatch z)) (RepF.swap s r)
  | _, _, .ptr => .ptr
  | _, _, .scr h => .scr (s.sq h)
  | _, _, .exc0 => .exc0
  | _, _, .exc1 h r => .exc1 (s.get h (fun k z => nomatch z) (fun q k z => nomatch z)) (RepF.swap s r)
theorem RepL.swap (s : Swap d kvs H H') : ∀ {v : List V} {x : List D}, RepL K H v x → RepL K H' v x
  | _, _, .nil => .nil
  | _, _, .cons h r => .cons (Rep.swap s h) (RepL.swap s r)
theorem RepK.swap (s : Swap d kvs H H') : ∀ {v : List (Key × V)} {x : List (Key × D)}, RepK K H v x → RepK K H' v x
  | _, _, .nil => .nil
  | _, _, .cons h r => .cons (Rep.swap s h) (RepK.swap s r)
theorem RepF.swap (s : Swap d kvs H H') : ∀ {v : List (Str × V)} {x : List (Str × D)}, RepF K H v x → RepF K H' v x
  | _, _, .nil => .nil
  | _, _, .cons h r => .cons (Rep.swap s h) (RepF.swap s r)
end
end
/-! ### where a frozen dict is found without a step -/
inductive DPa where
  | sl (i : Nat) | fl (i : Nat) (c f : Str) (flds : List Str) (j : Nat)
def DPa.rd (K : PySem.W.Frag) : DPa → TE
  | .sl i => tVar i
  | .fl i _ f _ _ => tFld K (tVar i) f
def dPa (p : DPa) (Γ : Ev) (k : List (Key × D) → Prop) : Prop := match p with
  | .sl i => (match Γ.sl[i]? with
    | some (some (.fro (.dic ds))) => k ds
    | _ => False)
  | .fl i c _ flds j => (match Γ.sl[i]? with
    | some (some (.fro d)) => ∃ ds, fldI c flds j d (.dic ds) ∧ k ds
    | some (some (.lk d)) => ∃ ds, fldI c flds j d (.dic ds) ∧ k ds
    | _ => False)
inductive DWk where
  | ks | vs | its
def DWk.items : DWk → List (Key × D) → List D
  | .ks, ds => ds.map fun kv => kD kv.1
  | .vs, ds => ds.map fun kv => kv.2
  | .its, ds => ds.map fun kv => .tup [kD kv.1, kv.2]
def DWk.wi : DWk → TE → TI
  | .ks => iKeys
  | .vs => iVals
  | .its => iItems
def dWk (p : DPa) (w : DWk) : DA := fun Γ Φ => dPa p Γ fun ds => Φ (w.items ds) Γ
/-- the path is good: for a field, what its class's text says -/
def DPa.ok (K : PySem.W.Frag) : DPa → Prop
  | .sl _ => True
  | .fl _ c f flds j => Ci K c flds ∧ flds[j]? = some f
section
variable {K : PySem.W.Frag} {y : Yn} {Hf Hf' : Hp} {aS : Option Addr} {Γ : Ev} {σ : L2.St} {H H' : Hp} {S : Option Sto}
theorem fldI_inj {c : Str} {flds : List Str} {j : Nat} {d v w : D} (h : fldI c flds j d v) (h' : fldI c flds j d w) : v = w := by
  obtain ⟨fs, rfl, _, e⟩ := h
  obtain ⟨fs', e2, _, e'⟩ := h'
  cases e2
  rw [e] at e'
  exact Option.some.inj e'
theorem pa_at {p : DPa} (ok : p.ok K) (A : At K y Hf aS Γ σ H) {k0 : List (Key × D) → Prop} (h : dPa p Γ k0) : ∃ d kvs ds, Rd Hf d (.dK kvs) ∧ RepK K Hf kvs ds ∧ (∀ k, dPa p Γ k → k ds) ∧ (∀ k, k ds → dPa p Γ k) ∧
    ∀ H1 (Q : VK), (∀ a o, a ≠ d → H a = some o → H1 a = some o) → Q (.ref d) H1 → p.rd K σ H1 Q := by
  cases p with
  | sl i =>
    unfold dPa at h
    dsimp only at h
    split at h
    · rename_i ds e
      obtain ⟨v, hv, hb⟩ := A.slot i _ e
      have hb : Rep K Hf v (.dic ds) := hb
      cases hb with
      | @dic d kvs _ hd hr =>
        refine ⟨d, kvs, ds, hd, hr, fun k hk => ?_, fun k hk => ?_, fun H1 Q _ q => ⟨_, hv, q⟩⟩
        · unfold dPa at hk
          dsimp only at hk
          rw [e] at hk
          exact hk
        · unfold dPa
          dsimp only
          rw [e]
          exact hk
    · exact h.elim
  | fl i c f flds j =>
    obtain ⟨I, hf⟩ := ok
    have core : ∀ {d0 : D} {v : V} {ds : List (Key × D)}, σ[i]? = some (some v) → LRep K Hf H v d0 → fldI c flds j d0 (.dic ds) → ∃ d kvs, Rd Hf d (.dK kvs) ∧ RepK K Hf kvs ds ∧ ∀ H1 (Q : VK), (∀ a o, a ≠ d → H a = some o → H1 a = some o) → Q (.ref d) H1 → (DPa.fl i c f flds j).rd K σ H1 Q := fun {d0 v ds} hv hr hfl => by
      obtain ⟨fs, rfl, hk, hj⟩ := hfl
      obtain ⟨a, C', dx, vfs, rfl, g', ha, rf⟩ : ∃ a C dx vs, v = .ref a ∧ cAt K c C ∧ H a = some (.ins C dx vs) ∧ RepF K Hf vs fs := by
        rcases hr with h | ⟨a, o, e1, e2, h⟩
        · cases h with
          | ins g h1 h2 => exact ⟨_, _, _, _, rfl, g, A.co.frz _ _ h1, h2⟩
        · cases o with
          | ins cn' fs' =>
            cases e2
            obtain ⟨C, dx, vs, g, h1, h2⟩ := h
            exact ⟨a, C, dx, vs, e1, g, h1, h2⟩
          | lst _ => cases e2
          | dic _ => cases e2
      obtain ⟨u, hu, ru⟩ := rf.val hj
      cases ru with
      | @dic d kvs _ hd hr =>
        refine ⟨d, kvs, hd, hr, fun H1 Q hH q => ?_⟩
        obtain ⟨C, g, cl, na⟩ := I.ex
        have eC := g.uniq g'
        subst eC
        have nd : a ≠ d := fun e => by
          subst e
          rcases hd with z | ⟨o, z⟩
          · have := A.co.frz _ _ z
            rw [ha] at this
            cases this
          · have := A.co.frz _ _ z
            rw [ha] at this
            cases this
        exact ⟨_, hv, a, C, dx, vfs, _, rfl, hH a _ nd ha, cl, na f (List.mem_of_getElem? hf), look_at (by rw [rf.keys, hk]; exact I.nd) (by rw [rf.keys, hk]; exact hf) hu, q⟩
    unfold dPa at h
    dsimp only at h
    split at h
    · rename_i d0 e
      obtain ⟨ds, hfl, _⟩ := h
      obtain ⟨v, hv, hb⟩ := A.slot i _ e
      obtain ⟨d, kvs, h1, h2, h3⟩ := core hv (.inl hb) hfl
      refine ⟨d, kvs, ds, h1, h2, fun k hk => ?_, fun k hk => ?_, h3⟩
      · unfold dPa at hk
        dsimp only at hk
        rw [e] at hk
        obtain ⟨ds', hfl', hk⟩ := hk
        have := fldI_inj hfl hfl'
        cases this
        exact hk
      · unfold dPa
        dsimp only
        rw [e]
        exact ⟨ds, hfl, hk⟩
    · rename_i d0 e
      obtain ⟨ds, hfl, _⟩ := h
      obtain ⟨v, hv, hb⟩ := A.slot i _ e
      obtain ⟨d, kvs, h1, h2, h3⟩ := core hv (lk_prep A.co hb).l hfl
      refine ⟨d, kvs, ds, h1, h2, fun k hk => ?_, fun k hk => ?_, h3⟩
      · unfold dPa at hk
        dsimp only at hk
        rw [e] at hk
        obtain ⟨ds', hfl', hk⟩ := hk
        have := fldI_inj hfl hfl'
        cases this
        exact hk
      · unfold dPa
        dsimp only
        rw [e]
        exact ⟨ds, hfl, hk⟩
    · exact h.elim
theorem rep_kD {k : Key} : Rep K H (kV k) (kD k) := by
  cases k with
  | inl i => exact .int i
  | inr x => exact .str x
theorem RepK.getV : ∀ {kvs : List (Key × V)} {ds : List (Key × D)} {i : Nat} {k : Key} {v : V}, RepK K H kvs ds → kvs[i]? = some (k, v) → ∃ dv, ds[i]? = some (k, dv) ∧ Rep K H v dv
  | _, _, _, _, _, .nil, e => by simp at e
  | _, _, 0, _, _, .cons h _, e => by
    have e := Option.some.inj e
    cases e
    exact ⟨_, rfl, h⟩
  | _, _, i + 1, _, _, .cons _ r, e => RepK.getV (i := i) r e
/-- the walk of a locked dict -/
theorem it_dict {y0 : Yn} {d : Addr} {o : Obj} {kvs : List (Key × V)} {ds : List (Key × D)} (w : DWk) (h : Hf d = some (.frz o (.dK kvs))) (r : RepK K Hf kvs ds) :
    ∃ J, ItOk K y0 Hf J (w.items ds) ∧ ∀ (td : TE) (σ : L2.St) (H : Hp) (R : It → Hp → Prop), td σ H (fun x H1 => x = .ref d ∧ H1 d = some (.frz o (.dK kvs)) ∧ R J H1) → (∀ Q Q' : VK, (∀ v H, Q v H → Q' v H) → td σ H Q → td σ H Q') → w.wi td σ H R := by
  have hl := r.len
  have got : ∀ {i : Nat} {k : Key} {v : V} {Hf2 : Hp}, Same Hf Hf2 → kvs[i]? = some (k, v) → ∃ dv, ds[i]? = some (k, dv) ∧ Rep K Hf2 v dv := fun {i k v Hf2} e hk => by
    obtain ⟨dv, h1, h2⟩ := r.getV hk
    exact ⟨dv, h1, h2.mono e⟩
  cases w with
  | ks =>
    refine ⟨Itk d o kvs, ⟨fun i y' Hf2 aS2 Γ2 σ2 H2 A2 e2 _ hi => ?_, fun y' Hf2 aS2 Γ2 σ2 H2 A2 e2 _ => ⟨A2.co.frz _ _ (e2 _ _ h), by show kvs.length ≤ (ds.map _).length; rw [List.length_map, hl]; exact Nat.le_refl _⟩⟩, fun td σ H R ht mono => mono _ _ (fun x H1 ⟨e1, e2, e3⟩ => ⟨d, o, e1, .inl ⟨kvs, e2, e3⟩⟩) ht⟩
    have hi : i < (ds.map fun kv => kD kv.1).length := hi
    rw [List.length_map] at hi
    refine ⟨⟨A2.co.frz _ _ (e2 _ _ h), by rw [hl]; exact hi⟩, fun x H' hy => ?_⟩
    obtain ⟨rfl, k, v, hk, rfl⟩ := hy
    obtain ⟨dv, hd, hr⟩ := got e2 hk
    exact ⟨Hf2, A2, Same.refl _, Keep.refl _ _, kD k, by show (ds.map _)[i]? = _; rw [List.getElem?_map, hd]; rfl, rep_kD⟩
  | vs =>
    refine ⟨Itd d o kvs, ⟨fun i y' Hf2 aS2 Γ2 σ2 H2 A2 e2 _ hi => ?_, fun y' Hf2 aS2 Γ2 σ2 H2 A2 e2 _ => ⟨A2.co.frz _ _ (e2 _ _ h), by show kvs.length ≤ (ds.map _).length; rw [List.length_map, hl]; exact Nat.le_refl _⟩⟩, fun td σ H R ht mono => mono _ _ (fun x H1 ⟨e1, e2, e3⟩ => ⟨d, o, kvs, e1, e2, e3⟩) ht⟩
    have hi : i < (ds.map fun kv => kv.2).length := hi
    rw [List.length_map] at hi
    refine ⟨⟨A2.co.frz _ _ (e2 _ _ h), by rw [hl]; exact hi⟩, fun x H' hy => ?_⟩
    obtain ⟨rfl, k, hk⟩ := hy
    obtain ⟨dv, hd, hr⟩ := got e2 hk
    exact ⟨Hf2, A2, Same.refl _, Keep.refl _ _, dv, by show (ds.map _)[i]? = _; rw [List.getElem?_map, hd]; rfl, hr⟩
  | its =>
    refine ⟨Iti d o kvs, ⟨fun i y' Hf2 aS2 Γ2 σ2 H2 A2 e2 _ hi => ?_, fun y' Hf2 aS2 Γ2 σ2 H2 A2 e2 _ => ⟨A2.co.frz _ _ (e2 _ _ h), by show kvs.length ≤ (ds.map _).length; rw [List.length_map, hl]; exact Nat.le_refl _⟩⟩, fun td σ H R ht mono => mono _ _ (fun x H1 ⟨e1, e2, e3⟩ => ⟨d, o, kvs, e1, e2, e3⟩) ht⟩
    have hi : i < (ds.map fun kv => D.tup [kD kv.1, kv.2]).length := hi
    rw [List.length_map] at hi
    refine ⟨⟨A2.co.frz _ _ (e2 _ _ h), by rw [hl]; exact hi⟩, fun x H' hy => ?_⟩
    obtain ⟨T, k, v, hk, rfl, hT, rfl⟩ := hy
    obtain ⟨dv, hd, hr⟩ := got e2 hk
    have q := A2.layK hT (o := .tup [kV k, v])
    exact ⟨_, A2.lay hT, q.1, q.2, .tup [kD k, dv], by show (ds.map _)[i]? = _; rw [List.getElem?_map, hd]; rfl, .tup upd_same (.cons rep_kD (.cons (hr.mono q.1) .nil))⟩
theorem froB_idem (sl : List (Option B)) : (sl.map froB).map froB = sl.map froB := by
  rw [List.map_map]
  refine List.map_congr_left fun b _ => ?_
  cases b with
  | none => rfl
  | some b => cases b <;> rfl
theorem wipe_fro (sl : List (Option B)) : ∀ vs, (wipeE (sl.map froB) vs).map froB = (wipeE sl vs).map froB
  | [] => froB_idem sl
  | v :: vs => by
    unfold wipeE
    rw [List.map_set, List.map_set, wipe_fro sl vs]
/-- the locked state -/
theorem At.lock (A : At K y Hf aS Γ σ H) {d : Addr} {kvs : List (Key × V)} (h : Hf d = some (.dK kvs)) (od : Obj) :
    At K ⟨upd H d (.frz od (.dK kvs)), upd Hf d (.frz od (.dK kvs)), aS⟩ (upd Hf d (.frz od (.dK kvs))) aS Γ.fr σ (upd H d (.frz od (.dK kvs))) := by
  have c := A.co
  have sw : Swap d kvs Hf (upd Hf d (.frz od (.dK kvs))) := ⟨fun a n => upd_ne n, .inl h, .inr ⟨od, upd_same⟩⟩
  have hH := c.frz _ _ h
  have ns : aS ≠ some d := fun e => by
    have := (c.sto.none e).1
    rw [h] at this
    cases this
  have A1 := A.rebase
  refine At.mk2 (Γ := Γ.fr) A1.len ⟨fun a o h _ => h, fun a o e => ?_, Same.refl _, fun a o h => .inl ⟨o, h⟩, ?_, .inr rfl, fun a e n => ?_⟩ (fun i b hb => ?_) (fun i j a oi oj h1 _ _ _ => absurd rfl ((fr_get h1).2 oi)) rfl
  · by_cases ha : a = d
    · subst ha
      rw [upd_same] at e ⊢
      exact e
    · rw [upd_ne ha] at e ⊢
      exact c.frz a o e
  · have q := c.sto
    show Stc _ _ aS Γ.S
    revert q
    cases aS with
    | none => cases Γ.S <;> exact id
    | some a =>
      cases Γ.S with
      | none => exact id
      | some S =>
        rintro ⟨⟨cc, z1, z2⟩, z3⟩
        have na : a ≠ d := fun e => ns (by rw [e])
        refine ⟨⟨cc, by rw [upd_ne na]; exact z1, ?_⟩, by rw [upd_ne na]; exact z3⟩
        exact sw.get z2 (fun k z => nomatch z) (fun q k z => nomatch z)
  · have n' : aS = none := n
    rw [n'] at e
    cases e
  · obtain ⟨v, hv, hb⟩ := A1.slot i b hb
    refine ⟨v, hv, ?_⟩
    cases b with
    | fro x => exact Rep.swap sw hb
    | own o => exact absurd rfl ((fr_get (by assumption)).2 o)
    | sto => exact hb
    | lk x =>
      rcases hb with hb | ⟨a, o, e1, e2, g1, g2⟩
      · exact .inl (Rep.swap sw hb)
      · by_cases ha : a = d
        · subst ha
          left
          subst e1 e2
          cases o with
          | lst xs =>
            obtain ⟨vs, f1, _⟩ := g1
            have f1 : H a = _ := f1
            rw [hH] at f1
            cases f1
          | ins c fs =>
            obtain ⟨_, _, _, _, f1, _⟩ := g1
            have f1 : H a = _ := f1
            rw [hH] at f1
            cases f1
          | dic es =>
            obtain ⟨vs, f1, f2⟩ := g1
            have f1 : H a = _ := f1
            rw [hH] at f1
            cases f1
            exact .dic (.inr ⟨od, upd_same⟩) (RepK.swap sw f2)
        · right
          refine ⟨a, o, e1, e2, ?_, g2⟩
          have up : ∀ u, H a = some u → upd H d (.frz od (.dK kvs)) a = some u := fun u hu => by rw [upd_ne ha]; exact hu
          cases o with
          | lst xs => obtain ⟨vs, f1, f2⟩ := g1; exact ⟨vs, up _ f1, RepL.swap sw f2⟩
          | dic xs => obtain ⟨vs, f1, f2⟩ := g1; exact ⟨vs, up _ f1, RepK.swap sw f2⟩
          | ins c fs => obtain ⟨C, dx, vs, f0, f1, f2⟩ := g1; exact ⟨C, dx, vs, f0, up _ f1, RepF.swap sw f2⟩
/-- .. unlocked again -/
theorem Co.unlock (A : At K y Hf aS Γ σ H) {d : Addr} {kvs : List (Key × V)} (h : Hf d = some (.dK kvs)) {od : Obj} {S' : Option Sto}
    (c' : Co ⟨upd H d (.frz od (.dK kvs)), upd Hf d (.frz od (.dK kvs)), aS⟩ Hf' aS S' H') : Co ⟨H, Hf, aS⟩ (upd Hf' d (.dK kvs)) aS S' (upd H' d (.dK kvs)) ∧ Swap d kvs Hf' (upd Hf' d (.dK kvs)) := by
  have c := A.co
  have hH := c.frz _ _ h
  have hf' : Hf' d = some (.frz od (.dK kvs)) := c'.mon d _ upd_same
  have sw : Swap d kvs Hf' (upd Hf' d (.dK kvs)) := ⟨fun a n => upd_ne n, .inr ⟨od, hf'⟩, .inl upd_same⟩
  have ns : aS ≠ some d := fun e => by
    have := (c.sto.none e).1
    rw [h] at this
    cases this
  refine ⟨⟨fun a o ha n => ?_, fun a o ha => ?_, fun a o ha => ?_, fun a o ha => ?_, ?_, .inr rfl, fun a e n => ?_⟩, sw⟩
  · by_cases e : a = d
    · subst e
      have ha : H a = some o := ha
      rw [upd_same, ← ha, hH]
    · rw [upd_ne e]
      exact c'.kept a o (show upd H d _ a = some o by rw [upd_ne e]; exact ha) n
  · by_cases e : a = d
    · subst e
      rw [upd_same] at ha ⊢
      exact ha
    · rw [upd_ne e] at ha ⊢
      exact c'.frz a o ha
  · by_cases e : a = d
    · subst e
      have ha : Hf a = some o := ha
      rw [upd_same, ← ha, h]
    · rw [upd_ne e]
      exact c'.mon a o (show upd Hf d _ a = some o by rw [upd_ne e]; exact ha)
  · by_cases e : a = d
    · subst e
      exact .inl ⟨_, h⟩
    · rw [upd_ne e] at ha
      rcases c'.new a o ha with ⟨u, hu⟩ | hn
      · have hu : upd Hf d _ a = some u := hu
        rw [upd_ne e] at hu
        exact .inl ⟨u, hu⟩
      · have hn : upd H d _ a = none := hn
        rw [upd_ne e] at hn
        exact .inr hn
  · have q := c'.sto
    revert q
    cases aS with
    | none => cases S' <;> exact id
    | some a =>
      cases S' with
      | none => exact id
      | some S =>
        rintro ⟨⟨cc, z1, z2⟩, z3⟩
        have na : a ≠ d := fun e => ns (by rw [e])
        exact ⟨⟨cc, by rw [upd_ne na]; exact z1, sw.get z2 (fun k z => nomatch z) (fun q k z => nomatch z)⟩, by rw [upd_ne na]; exact z3⟩
  · have n' : aS = none := n
    rw [n'] at e
    cases e
theorem pa_mono {p : DPa} {Q Q' : VK} (h : ∀ v H, Q v H → Q' v H) (q : p.rd K σ H Q) : p.rd K σ H Q' := by
  cases p with
  | sl i => obtain ⟨v, hv, q⟩ := q; exact ⟨v, hv, h _ _ q⟩
  | fl i c f flds j =>
    obtain ⟨v, hv, a, C, dx, fs, u, e1, e2, e3, e4, e5, q⟩ := q
    exact ⟨v, hv, a, C, dx, fs, u, e1, e2, e3, e4, e5, h _ _ q⟩
theorem dPa_fr {p : DPa} {k : List (Key × D) → Prop} : dPa p Γ.fr k ↔ dPa p Γ k := by
  have fr : ∀ i, Γ.fr.sl[i]? = (Γ.sl[i]?).map froB := fun i => List.getElem?_map ..
  cases p with
  | sl i =>
    unfold dPa
    dsimp only
    rw [fr i]
    cases Γ.sl[i]? with
    | none => exact Iff.rfl
    | some b =>
      cases b with
      | none => exact Iff.rfl
      | some b => cases b <;> exact Iff.rfl
  | fl i c f flds j =>
    unfold dPa
    dsimp only
    rw [fr i]
    cases Γ.sl[i]? with
    | none => exact Iff.rfl
    | some b =>
      cases b with
      | none => exact Iff.rfl
      | some b => cases b <;> exact Iff.rfl
/-- the walk at a state where the dict is locked -/
theorem wk_at {p : DPa} (w : DWk) (A : At K y Hf aS Γ σ H) {d : Addr} {o : Obj} {kvs : List (Key × V)} {ds : List (Key × D)} (h : Hf d = some (.frz o (.dK kvs))) (r : RepK K Hf kvs ds) (hk : ∀ k, dPa p Γ k → k ds)
    (rd : ∀ (Q : VK), Q (.ref d) H → p.rd K σ H Q) (Φ : List D → Ev → Prop) (R : It → Hp → Prop) (hW : dWk p w Γ Φ) (kk : ∀ ds Γ' J Hf' H', At K y Hf' aS Γ' σ H' → Same Hf Hf' → Keep aS H H' → ItOk K y Hf' J ds → Φ ds Γ' → R J H') : w.wi (p.rd K) σ H R := by
  obtain ⟨J, it, mk⟩ := it_dict (y0 := y) w h r
  exact mk _ σ H R (rd _ ⟨rfl, A.co.frz _ _ h, kk _ Γ J Hf H A (Same.refl _) (Keep.refl _ _) it (hk _ hW)⟩) fun Q Q' hm q => pa_mono hm q
theorem so_lcD {p : DPa} (ok : p.ok K) (w : DWk) {g : TG} {G : DG} {js : List Nat} {tt : TT} {Tt : DT} {te : TE} {Te : DE} {vs : List Nat} (hg : SG K g G js) (ht : ST K tt Tt) (he : SE K te Te) (hj : ∀ j ∈ js, j ∈ vs) :
    SO K (fun σ H Q => tLockE (tLc (w.wi (p.rd K)) g tt te vs) σ H Q ∨ tLc (w.wi (p.rd K)) g tt te vs σ H Q) (dLc (dWk p w) G Tt Te vs) := by
  intro y Hf aS Γ σ H Φ Q A hT k
  obtain ⟨d, kvs, ds, hd, hr, hk, hk', rd⟩ := pa_at ok A hT
  rcases hd with hd | ⟨o, hd⟩
  · left
    have hH := A.co.frz _ _ hd
    refine ⟨d, .dK kvs, hH, trivial, fun od => ?_⟩
    have A1 := A.lock hd od
    have sw : Swap d kvs Hf (upd Hf d (.frz od (.dK kvs))) := ⟨fun a n => upd_ne n, .inl hd, .inr ⟨od, upd_same⟩⟩
    refine lc_at A1 (fun Φ R hW kk => wk_at w A1 upd_same (RepK.swap sw hr) (fun k h => hk k (dPa_fr.mp h)) (fun Q q => rd _ Q (fun a o n e => by rw [upd_ne n]; exact e) q) Φ R hW kk) hg ht he hj
      (fun r Γ'' => match r with
        | .own (.lst acc) => Φ (.own (.lst acc)) (Γ.w (wipeE Γ.sl vs) Γ''.S)
        | _ => False) _ ?_ fun r Γ' v Hf' H' A' e1 k1 hb ha hΦ => ?_
    · refine dPa_fr.mpr (hk' _ ?_)
      have h1 := hk _ hT
      have h2 : (wipeE Γ.fr.sl vs).map froB = (wipeE Γ.sl vs).map froB := wipe_fro Γ.sl vs
      show lcGo G Tt Te ((wipeE Γ.fr.sl vs).map froB) (w.items ds) [] Γ.S _
      rw [h2]
      exact h1
    · cases r with
      | fro _ => exact hΦ.elim
      | sto => exact hΦ.elim
      | lk _ => exact hΦ.elim
      | own o =>
        cases o with
        | dic _ => exact hΦ.elim
        | ins _ _ => exact hΦ.elim
        | lst acc =>
          obtain ⟨D, rfl, ⟨ws, f1, f2⟩, f3, f4, f5⟩ := hb
          obtain ⟨c2, sw2⟩ := Co.unlock A hd (A'.co)
          have f4 : upd H d (.frz od (.dK kvs)) D = none := f4
          have nD : D ≠ d := fun e => by rw [e, upd_same] at f4; cases f4
          rw [upd_ne nD] at f4
          refine ⟨A'.co.frz _ _ (e1 _ _ upd_same), ?_⟩
          have A2 := A.behind c2
          have A3 : At K y (upd Hf' d (.dK kvs)) aS (Γ.w (wipeE Γ.sl vs) Γ'.S) σ (upd H' d (.dK kvs)) := A2.less (wipeE_len _ _) fun i b h => (wipeE_get h).1
          refine k (.own (.lst acc)) _ (.ref D) _ _ A3 c2.mon c2.keep ⟨D, rfl, ⟨ws, by rw [upd_ne nD]; exact f1, RepL.swap sw2 f2⟩, by rw [upd_ne nD]; exact f3, A.co.old f4, A.co.sne f4⟩ (fun i o hi2 hσ => ?_) hΦ
          have hi3 := all_less (wipeE_len _ _) (fun i b h => (wipeE_get h).1) hi2
          exact A.apart (o := o) f4 i o hi3 hσ
  · right
    exact lc_at A (fun Φ R hW kk => wk_at w A hd hr hk (fun Q q => rd _ Q (fun a o n e => e) q) Φ R hW kk) hg ht he hj Φ Q hT k
end
/-! ### {k: v for ..} -/
section
variable {K : PySem.W.Frag} {y : Yn} {Hf Hf' : Hp} {aS : Option Addr} {Γ : Ev} {σ : L2.St} {H H' : Hp} {S : Option Sto} {v : V} {d : D} {r : B}
def dcGo0 (G : DG) (Tt : DT) (Tk Te : DE) (sl0 : List (Option B)) : List D → List (Key × D) → Option Sto → (List (Key × D) → Option Sto → Prop) → Prop
  | [], acc, S, k => k acc S
  | d :: ds, acc, S, k => G d ⟨sl0, S⟩ fun Γ2 => Tt Γ2 fun b Γ3 => (b = true → Tk Γ3 fun kd Γ4 => Te Γ4 fun e Γ5 => ∃ q, keyD kd = some q ∧ acc.length < sizeLine ∧ dcGo0 G Tt Tk Te sl0 ds (putD acc q e) Γ5.S k) ∧ (b = false → dcGo0 G Tt Tk Te sl0 ds acc Γ3.S k)
@[irreducible] def dcGo (G : DG) (Tt : DT) (Tk Te : DE) (sl0 : List (Option B)) : List D → List (Key × D) → Option Sto → (List (Key × D) → Option Sto → Prop) → Prop := dcGo0 G Tt Tk Te sl0
theorem dcGo_nil {G : DG} {Tt : DT} {Tk Te : DE} {sl0 : List (Option B)} {acc : List (Key × D)} {S : Option Sto} {k : List (Key × D) → Option Sto → Prop} : dcGo G Tt Tk Te sl0 [] acc S k = k acc S := by unfold dcGo; rfl
theorem dcGo_cons {G : DG} {Tt : DT} {Tk Te : DE} {sl0 : List (Option B)} {d : D} {ds : List D} {acc : List (Key × D)} {S : Option Sto} {k : List (Key × D) → Option Sto → Prop} : dcGo G Tt Tk Te sl0 (d :: ds) acc S k = G d ⟨sl0, S⟩ fun Γ2 => Tt Γ2 fun b Γ3 => (b = true → Tk Γ3 fun kd Γ4 => Te Γ4 fun e Γ5 => ∃ q, keyD kd = some q ∧ acc.length < sizeLine ∧ dcGo G Tt Tk Te sl0 ds (putD acc q e) Γ5.S k) ∧ (b = false → dcGo G Tt Tk Te sl0 ds acc Γ3.S k) := by unfold dcGo; rfl
def dDc (W : DA) (G : DG) (Tt : DT) (Tk Te : DE) (vs : List Nat) : DO := fun Γ Φ => W Γ fun ds Γ1 =>
  dcGo G Tt Tk Te ((wipeE Γ1.sl vs).map froB) ds [] Γ1.S fun acc S' => Φ (.own (.dic acc)) (Γ1.w (wipeE Γ1.sl vs) S')
/-- at one state -/
theorem dc_at {wi : TI} {W : DA} {g : TG} {G : DG} {js : List Nat} {tt : TT} {Tt : DT} {tk te : TE} {Tk Te : DE} {vs : List Nat} (A : At K y Hf aS Γ σ H)
    (hw : ∀ (Φ : List D → Ev → Prop) (R : It → Hp → Prop), W Γ Φ → (∀ ds Γ' J Hf' H', At K y Hf' aS Γ' σ H' → Same Hf Hf' → Keep aS H H' → ItOk K y Hf' J ds → Φ ds Γ' → R J H') → wi σ H R) (hg : SG K g G js) (ht : ST K tt Tt) (hkk : SE K tk Tk) (he : SE K te Te) (hj : ∀ j ∈ js, j ∈ vs)
    (Φ : B → Ev → Prop) (Q : VK) (hT : dDc W G Tt Tk Te vs Γ Φ) (k : ∀ r Γ' v Hf' H', At K y Hf' aS Γ' σ H' → Same Hf Hf' → Keep aS H H' → BAt K y Hf' aS H' v r → Apart v r Γ' σ → Φ r Γ' → Q v H') : tDc wi g tt tk te vs σ H Q := by
  refine hw _ _ hT fun ds Γ1 J Hf1 H1 A1 e1 k1 it hT1 D hD => ?_
  have A2 : At K y Hf1 aS Γ1 σ (upd H1 D (.dK [])) := A1.layO hD
  have hs : aS ≠ some D := A1.co.sne hD
  have hfD : Hf1 D = none := A1.co.frzn hD
  -- the block's state
  have A3 := A2.block vs
  -- behind i items
  let Y1 : Yn := ⟨upd H1 D (.dK []), Hf1, aS⟩
  let P : Nat → Hp → Prop := fun i H' => ∃ Hf' S' acc vacc, Co { Y1 with H0 := fun a => if a = D then none else Y1.H0 a } Hf' aS S' H' ∧ Hf' D = none ∧ H' D = some (.dK vacc) ∧ RepK K Hf' vacc acc ∧
    dcGo G Tt Tk Te ((wipeE Γ1.sl vs).map froB) (ds.drop i) acc S' fun acc S' => Φ (.own (.dic acc)) (Γ1.w (wipeE Γ1.sl vs) S')
  have cur : ∀ {Hf' : Hp} {S' : Option Sto} {H' : Hp} {vacc : List (Key × V)}, Co { Y1 with H0 := fun a => if a = D then none else Y1.H0 a } Hf' aS S' H' → Hf' D = none → H' D = some (.dK vacc) →
      At K ⟨H', Hf', aS⟩ Hf' aS ⟨(wipeE Γ1.sl vs).map froB, S'⟩ (wipe σ vs) H' ∧ (∀ a o, H1 a = some o → aS ≠ some a → H' a = some o) := fun {Hf' S' H' vacc} c hn hv => by
    have keepH : ∀ a o, H1 a = some o → aS ≠ some a → H' a = some o := fun a o h n => by
      have na : a ≠ D := fun e => by rw [e, hD] at h; cases h
      refine c.kept a o ?_ n
      show (if a = D then none else upd H1 D (.dK []) a) = some o
      rw [if_neg na, upd_ne na]
      exact h
    refine ⟨At.mk2 (Γ := ⟨(wipeE Γ1.sl vs).map froB, S'⟩) A3.len ⟨fun a o h _ => h, c.frz, Same.refl _, fun a o h => .inl ⟨o, h⟩, c.sto, .inr rfl, fun a e n => ?_⟩ (fun i b h => ?_) A3.sep rfl, keepH⟩
    · have n' : aS = none := n
      rw [n'] at e
      cases e
    · obtain ⟨v, hσ, hb⟩ := A3.slot i b h
      refine ⟨v, hσ, ?_⟩
      cases b with
      | fro d => exact Rep.mono c.mon hb
      | own o => exact absurd rfl ((fr_get h).2 o)
      | sto => exact hb
      | lk d =>
        obtain ⟨w1, w2⟩ := wipeE_get (fr_get h).1
        obtain ⟨v', hσ', hb'⟩ := A1.slot i _ w1
        have hσ2 : (wipe σ vs)[i]? = some (some v) := hσ
        rw [wipe_get_ne w2, hσ'] at hσ2
        have hσ2 := Option.some.inj (Option.some.inj hσ2)
        subst hσ2
        rcases hb' with hb' | ⟨a, o, e1, e2, h1, h2⟩
        · exact .inl (hb'.mono c.mon)
        · obtain ⟨u, hu⟩ := h1.there
          have q := A1.co.was hu h2
          exact .inr ⟨a, o, e1, e2, h1.mono c.mon fun w hw => keepH a w (by rw [hu] at hw; rw [← hw]; exact q.1) q.2, q.2⟩
  have ko : ∀ {H' : Hp} {Hf' : Hp}, (∀ a o, H1 a = some o → aS ≠ some a → H' a = some o) → Ko y ⟨H', Hf', aS⟩ := fun {H' Hf'} kH a o h n =>
    let q := A1.co.was h n
    ⟨kH a o q.1 q.2, q.2⟩
  have turn : ∀ i H', i < ds.length → P i H' → ∀ x H2, J.yld i H' x H2 → g x (wipe σ vs) H2 fun σ2 H3 => wipe σ2 vs = wipe σ vs ∧ tt σ2 H3 fun b H4 =>
      if b = true then tk σ2 H4 fun yk H4' => te σ2 H4' fun z H5 => ∃ acc k, yk = kV k ∧ H5 D = some (.dK acc) ∧ acc.length < sizeLine ∧ P (i + 1) (upd H5 D (.dK (putK acc k z))) else P (i + 1) H4 := by
    rintro i H' hi ⟨Hf', S', acc, vacc, c, hn, hv, hr, hgo⟩ x H2 hy
    obtain ⟨A4, kH⟩ := cur c hn hv
    have hd : ds.drop i = ds[i] :: ds.drop (i + 1) := List.drop_eq_getElem_cons hi
    rw [hd, dcGo_cons] at hgo
    obtain ⟨_, yl⟩ := it.go i _ Hf' aS _ _ H' A4 c.mon (ko kH) hi
    obtain ⟨Hf2, A5, e5, k5, d, hd2, r5⟩ := yl x H2 hy
    rw [List.getElem?_eq_getElem hi] at hd2
    have hd2 := Option.some.inj hd2
    subst hd2
    -- what a later state of the block says of the outer one
    have out : ∀ {Hf6 : Hp} {Γ6 : Ev} {σ6 : L2.St} {H6 : Hp}, At K ⟨H', Hf', aS⟩ Hf6 aS Γ6 σ6 H6 → Co { Y1 with H0 := fun a => if a = D then none else Y1.H0 a } Hf6 aS Γ6.S H6 ∧ Hf6 D = none ∧ H6 D = some (.dK vacc) := fun {Hf6 Γ6 σ6 H6} A6 => by
      have c6 := A6.co
      refine ⟨⟨fun a o h n => ?_, c6.frz, c.mon.trans c6.mon, fun a o h => ?_, c6.sto, .inr rfl, fun a e n => ?_⟩, ?_, c6.kept D _ hv hs⟩
      · exact c6.kept a o (c.kept a o h n) n
      · rcases c6.new a o h with ⟨u, hu⟩ | hz
        · exact c.new a u hu
        · have hz : H' a = none := hz
          right
          show (if a = D then none else upd H1 D (.dK []) a) = none
          by_cases na : a = D
          · rw [if_pos na]
          · rw [if_neg na, upd_ne na]
            cases e : H1 a with
            | none => rfl
            | some w =>
              by_cases n : aS = some a
              · obtain ⟨_, w2, h2⟩ := c.sto.none n
                rw [hz] at h2
                cases h2
              · have := kH a w e n
                rw [hz] at this
                cases this
      · have n' : aS = none := n
        rw [n'] at e
        cases e
      · cases e : Hf6 D with
        | none => rfl
        | some o =>
          rcases c6.new D o e with ⟨u, hu⟩ | hz
          · have hu : Hf' D = some u := hu
            rw [hn] at hu
            cases hu
          · have hz : H' D = none := hz
            rw [hv] at hz
            cases hz
    refine hg _ Hf2 aS _ _ H2 x _ _ _ A5 r5 hgo fun Γ6 σ6 Hf6 H6 A6 e6 k6 s6 hT6 => ?_
    refine ⟨wipe_agree (s6.1.trans (wipe_length _ _)) s6.2 hj, ?_⟩
    refine ht _ Hf6 aS Γ6 σ6 H6 _ _ A6 hT6 fun b Γ7 Hf7 H7 A7 e7 k7 hT7 => ?_
    cases b with
    | true =>
      refine iteT (hkk _ Hf7 aS Γ7 σ6 H7 _ _ A7 (hT7.1 rfl) fun zk Γ7' wk Hf7' H7' A7' e7' k7' r7' hT7' => he _ Hf7' aS Γ7' σ6 H7' _ _ A7' hT7' fun z Γ8 w Hf8 H8 A8 e8 k8 r8 hT8 => ?_)
      obtain ⟨q, hq, hlt, hT8⟩ := hT8
      have ew := rep_key r7' hq
      obtain ⟨c8, n8, h8⟩ := out A8
      have hl := hr.len
      refine ⟨vacc, q, ew, h8, by rw [hl]; exact hlt, Hf8, Γ8.S, putD acc q z, putK vacc q w, ⟨fun a o h n => ?_, fun a o h => ?_, c8.mon, c8.new, ?_, c8.st0, c8.s00⟩, n8, upd_same, ((hr.mono ((e5.trans e6).trans (e7.trans (e7'.trans e8)))).put r8), hT8⟩
      · have na : a ≠ D := fun e => by
          rw [e] at h
          have h : (if D = D then none else _) = some o := h
          rw [if_pos rfl] at h
          cases h
        rw [upd_ne na]
        exact c8.kept a o h n
      · rw [upd_ne (ne_of_none h n8)]
        exact c8.frz a o h
      · have q := c8.sto
        revert q
        cases aS with
        | none => cases Γ8.S <;> exact id
        | some s =>
          cases Γ8.S with
          | none => exact id
          | some S =>
            rintro ⟨⟨cc, z1, z2⟩, z3⟩
            exact ⟨⟨cc, by rw [upd_ne (fun e => hs (by rw [e]))]; exact z1, z2⟩, z3⟩
    | false =>
      obtain ⟨c8, n8, h8⟩ := out A7
      exact iteF ⟨Hf7, Γ7.S, acc, vacc, c8, n8, h8, hr.mono (((e5.trans e6).trans e7)), hT7.2 rfl⟩
  refine ⟨fun i m H' => m = ds.length - i ∧ i ≤ ds.length ∧ P i H', ⟨ds.length, by simp, Nat.zero_le _, Hf1, Γ1.S, [], [], ⟨fun a o h n => ?_, A2.co.frz, Same.refl _, fun a o h => .inl ⟨o, h⟩, A2.co.sto, .inr rfl, fun a e n => ?_⟩, hfD, upd_same, .nil, hT1⟩, ?_⟩
  · have na : a ≠ D := fun e => by
      rw [e] at h
      have h : (if D = D then none else _) = some o := h
      rw [if_pos rfl] at h
      cases h
    have h : (if a = D then none else upd H1 D (.dK []) a) = some o := h
    rw [if_neg na] at h
    exact h
  · have n' : aS = none := n
    rw [n'] at e
    cases e
  rintro i m H' ⟨rfl, hi, p⟩
  by_cases hlt : i < ds.length
  · obtain ⟨Hf', S', acc, vacc, c, hn, hv, hr, hgo⟩ := id p
    obtain ⟨A4, kH⟩ := cur c hn hv
    exact .inr ⟨(it.go i _ Hf' aS _ _ H' A4 c.mon (ko kH) hlt).1, P (i + 1), fun H2 q => ⟨ds.length - (i + 1), by omega, rfl, hlt, q⟩, fun x H2 hy => turn i H' hlt p x H2 hy⟩
  · have e : i = ds.length := by omega
    subst e
    obtain ⟨Hf', S', acc, vacc, c, hn, hv, hr, hgo⟩ := p
    obtain ⟨A4, kH⟩ := cur c hn hv
    rw [List.drop_length, dcGo_nil] at hgo
    refine .inl ⟨it.stop _ Hf' aS _ _ H' A4 c.mon (ko kH), ?_⟩
    -- the end
    have c1 := A1.co
    have cb : Co ⟨H1, Hf1, aS⟩ Hf' aS S' H' := ⟨fun a o h n => kH a o h n, c.frz, c.mon, fun a o h => by
      rcases c.new a o h with ⟨u, hu⟩ | hz
      · exact .inl ⟨u, hu⟩
      · right
        have hz : (if a = D then none else upd H1 D (.dK []) a) = none := hz
        by_cases na : a = D
        · rw [na]; exact hD
        · rw [if_neg na, upd_ne na] at hz
          exact hz, c.sto, .inr rfl, fun a e n => by
      have n' : aS = none := n
      rw [n'] at e
      cases e⟩
    have A5 := A1.behind cb
    have A6 : At K y Hf' aS (Γ1.w (wipeE Γ1.sl vs) S') σ H' := A5.less (wipeE_len _ _) fun i b h => (wipeE_get h).1
    refine k (.own (.dic acc)) _ (.ref D) Hf' H' A6 (e1.trans c.mon) (k1.trans kH) ⟨D, rfl, ⟨vacc, hv, hr⟩, hn, c1.old hD, hs⟩ (fun i o hi2 hσ => ?_) hgo
    have hi3 := all_less (wipeE_len _ _) (fun i b h => (wipeE_get h).1) hi2
    obtain ⟨v, hv3, a, e3, h3, _⟩ := A1.sl.slot i _ hi3
    have hσ : (Γ1.vals σ)[i]? = _ := hσ
    rw [hσ] at hv3
    have hv3 := Option.some.inj (Option.some.inj hv3)
    subst hv3
    have e3 := V.ref.inj e3
    subst e3
    obtain ⟨u, hu⟩ := h3.there
    rw [hD] at hu
    cases hu
theorem so_dc {wi : TI} {W : DA} {g : TG} {G : DG} {js : List Nat} {tt : TT} {Tt : DT} {tk te : TE} {Tk Te : DE} {vs : List Nat} (hw : SI K wi W) (hg : SG K g G js) (ht : ST K tt Tt) (hkk : SE K tk Tk) (he : SE K te Te) (hj : ∀ j ∈ js, j ∈ vs) :
    SO K (tDc wi g tt tk te vs) (dDc W G Tt Tk Te vs) := fun y Hf aS Γ σ H Φ Q A hT k => dc_at A (fun Φ R h k => hw y Hf aS Γ σ H Φ R A h k) hg ht hkk he hj Φ Q hT k
end

end
section
/-! DLF: max and min of texts, sorted of alike data, list(d), dict(d), f-strings, split, join, find; short rules of dict walks. -/

/-! ### max(x, y), min(x, y) of texts -/
section
variable {prog : Program} {w : World} {A : Around} {E : Value → Shared → Prop} {s : Shared}
def sLt : Value → Value → Bool
  | .str x _, .str y _ => decide (x.cps.toList < y.cps.toList)
  | _, _ => false
theorem cmpS_lt (vs : Array Value) (hn : ∀ v ∈ vs, ∃ x t, v = .str x t) : CmpOf prog w A .Lt (fun i v => vs[i]? = some v) (fun i j => sLt (vs.getD i .none) (vs.getD j .none)) := fun i j vi vj s Q E hi hj h => by
  have e1 : vs.getD i .none = vi := by simp [Array.getD_eq_getD_getElem?, hi]
  have e2 : vs.getD j .none = vj := by simp [Array.getD_eq_getD_getElem?, hj]
  simp only [e1, e2] at h
  obtain ⟨x, t, rfl⟩ := hn _ (Array.mem_of_getElem? hi)
  obtain ⟨z, u, rfl⟩ := hn _ (Array.mem_of_getElem? hj)
  exact PyProof.Rows.lt_str h
theorem cmpS_gt (vs : Array Value) (hn : ∀ v ∈ vs, ∃ x t, v = .str x t) : CmpOf prog w A .Gt (fun i v => vs[i]? = some v) (fun i j => sLt (vs.getD j .none) (vs.getD i .none)) := fun i j vi vj s Q E hi hj h => by
  have e1 : vs.getD i .none = vi := by simp [Array.getD_eq_getD_getElem?, hi]
  have e2 : vs.getD j .none = vj := by simp [Array.getD_eq_getD_getElem?, hj]
  simp only [e1, e2] at h
  obtain ⟨x, t, rfl⟩ := hn _ (Array.mem_of_getElem? hi)
  obtain ⟨z, u, rfl⟩ := hn _ (Array.mem_of_getElem? hj)
  exact PySem.P.gt_str h
theorem max_two_str {Q : Value → Shared → Prop} {x z : Str} {t u : Tok} (hh : A.handled = none)
    (h : ∀ h' tk, (∀ c o, s.heap.get? c = some o → h'.get? c = some o) → Q (if sLt (.str x t) (.str z u) then .str z u else .str x t) { s with heap := h', toks := tk }) :
    wpAny (model prog w) A (call (.builtin "max") [.str x t, .str z u]) Q E s := by
  have hT : (s.heap.push { cls := .type "tuple", data := .seq #[.str x t, .str z u] }).IsTuple s.heap.objs.size #[.str x t, .str z u] := ⟨_, Heap.get?_push_size _ rfl, rfl, 0, rfl⟩
  refine call_max_two (wpAny_pyIter_tuple hT ?_)
  have hsz : (s.heap.push { cls := .type "tuple", data := .seq #[.str x t, .str z u] }).objs.size = s.heap.objs.size + 1 := Heap.size_push ..
  refine ⟨_, [_, s.heap.objs.size], [_], _, _, _, _, rfl, Walks.tuple (A := A.in1) hh _ s.heap.objs.size (by rw [hsz]; exact Nat.ne_of_lt (Nat.lt_succ_self _)) #[.str x t, .str z u],
    ⟨⟨_, Heap.get?_push_size _ rfl, rfl, rfl⟩, hT.push _⟩, fun c hc => ?_, by simp, cmpS_gt #[.str x t, .str z u] (by simp), fun v h' tk hP hk => ?_⟩
  · show c < ((s.heap.push _).push _).objs.size
    rw [Heap.size_push, hsz]
    rcases List.mem_cons.mp hc with rfl | hc
    · rw [hsz]; exact Nat.lt_succ_self _
    · rcases List.mem_cons.mp hc with rfl | hc
      · exact Nat.lt_succ_of_lt (Nat.lt_succ_self _)
      · cases hc
  · have hold : ∀ c o, s.heap.get? c = some o → h'.get? c = some o := fun c o e => by
      refine hk c o (fun hm => ?_) (Heap.get?_push_of_some _ (Heap.get?_push_of_some _ e))
      rcases List.mem_cons.mp hm with e1 | hm
      · have := Heap.lt_size e; rw [e1, hsz] at this; exact Nat.lt_irrefl _ (Nat.lt_of_succ_lt this)
      · cases hm
    have := h h' tk hold
    have hv : v = if sLt (.str x t) (.str z u) then .str z u else .str x t := by
      cases hc : sLt (.str x t) (.str z u) <;> simp [argBest, hc] at hP <;> simp [hP]
    rw [hv]; exact this
theorem min_two_str {Q : Value → Shared → Prop} {x z : Str} {t u : Tok} (hh : A.handled = none)
    (h : ∀ h' tk, (∀ c o, s.heap.get? c = some o → h'.get? c = some o) → Q (if sLt (.str z u) (.str x t) then .str z u else .str x t) { s with heap := h', toks := tk }) :
    wpAny (model prog w) A (call (.builtin "min") [.str x t, .str z u]) Q E s := by
  have hT : (s.heap.push { cls := .type "tuple", data := .seq #[.str x t, .str z u] }).IsTuple s.heap.objs.size #[.str x t, .str z u] := ⟨_, Heap.get?_push_size _ rfl, rfl, 0, rfl⟩
  refine call_min_two (wpAny_pyIter_tuple hT ?_)
  have hsz : (s.heap.push { cls := .type "tuple", data := .seq #[.str x t, .str z u] }).objs.size = s.heap.objs.size + 1 := Heap.size_push ..
  refine ⟨_, [_, s.heap.objs.size], [_], _, _, _, _, rfl, Walks.tuple (A := A.in1) hh _ s.heap.objs.size (by rw [hsz]; exact Nat.ne_of_lt (Nat.lt_succ_self _)) #[.str x t, .str z u],
    ⟨⟨_, Heap.get?_push_size _ rfl, rfl, rfl⟩, hT.push _⟩, fun c hc => ?_, by simp, cmpS_lt #[.str x t, .str z u] (by simp), fun v h' tk hP hk => ?_⟩
  · show c < ((s.heap.push _).push _).objs.size
    rw [Heap.size_push, hsz]
    rcases List.mem_cons.mp hc with rfl | hc
    · rw [hsz]; exact Nat.lt_succ_self _
    · rcases List.mem_cons.mp hc with rfl | hc
      · exact Nat.lt_succ_of_lt (Nat.lt_succ_self _)
      · cases hc
  · have hold : ∀ c o, s.heap.get? c = some o → h'.get? c = some o := fun c o e => by
      refine hk c o (fun hm => ?_) (Heap.get?_push_of_some _ (Heap.get?_push_of_some _ e))
      rcases List.mem_cons.mp hm with e1 | hm
      · have := Heap.lt_size e; rw [e1, hsz] at this; exact Nat.lt_irrefl _ (Nat.lt_of_succ_lt this)
      · cases hm
    have := h h' tk hold
    have hv : v = if sLt (.str z u) (.str x t) then .str z u else .str x t := by
      cases hc : sLt (.str z u) (.str x t) <;> simp [argBest, hc] at hP <;> simp [hP]
    rw [hv]; exact this
end
def maxS (x z : Str) : Str := if ltS x z then z else x
def minS (x z : Str) : Str := if ltS z x then z else x
section
variable {X : Cx}
theorem call_max2S (hc : X.calm = true) : CallR X (.builtin "max") (fun xs H Q => ∃ i j, xs = [.str i, .str j] ∧ Q (.str (maxS i j)) H) := by
  intro pins s σ H xs us Q I r h
  obtain ⟨i, j, rfl, q⟩ := h
  obtain ⟨u, w', rfl, ⟨t, rfl⟩, ⟨t', rfl⟩⟩ := vals2 r
  refine max_two_str (I.ok.hd hc) fun h' tk k => ⟨_, H, I.kept k, ?_, q⟩
  unfold maxS ltS
  show RelV _ (if decide (i.cps.toList < j.cps.toList) = true then _ else _)
  by_cases hj : decide (i.cps.toList < j.cps.toList) = true
  · rw [if_pos hj, if_pos hj]; exact ⟨_, rfl⟩
  · rw [if_neg hj, if_neg hj]; exact ⟨_, rfl⟩
theorem call_min2S (hc : X.calm = true) : CallR X (.builtin "min") (fun xs H Q => ∃ i j, xs = [.str i, .str j] ∧ Q (.str (minS i j)) H) := by
  intro pins s σ H xs us Q I r h
  obtain ⟨i, j, rfl, q⟩ := h
  obtain ⟨u, w', rfl, ⟨t, rfl⟩, ⟨t', rfl⟩⟩ := vals2 r
  refine min_two_str (I.ok.hd hc) fun h' tk k => ⟨_, H, I.kept k, ?_, q⟩
  unfold minS ltS
  show RelV _ (if decide (j.cps.toList < i.cps.toList) = true then _ else _)
  by_cases hj : decide (j.cps.toList < i.cps.toList) = true
  · rw [if_pos hj, if_pos hj]; exact ⟨_, rfl⟩
  · rw [if_neg hj, if_neg hj]; exact ⟨_, rfl⟩
end
/-- of two numbers, or of two texts -/
def two2D (f : Int → Int → Int) (g : Str → Str → Str) (ds : List D) (k : B → Prop) : Prop := match ds with
  | [.int i, .int j] => k (.fro (.int (f i j)))
  | [.str i, .str j] => k (.fro (.str (g i j)))
  | _ => False
def rTwo (f : Int → Int → Int) (g : Str → Str → Str) : List V → Hp → VK → Prop := fun xs H Q => (∃ i j, xs = [.int i, .int j] ∧ Q (.int (f i j)) H) ∨ ∃ i j, xs = [.str i, .str j] ∧ Q (.str (g i j)) H
theorem call_max2A {X : Cx} (hc : X.calm = true) : CallR X (.builtin "max") (rTwo maxI maxS) := fun pins s σ H xs us Q I r h => h.elim (fun h => call_max2 hc pins s σ H xs us Q I r h) fun h => call_max2S hc pins s σ H xs us Q I r h
theorem call_min2A {X : Cx} (hc : X.calm = true) : CallR X (.builtin "min") (rTwo minI minS) := fun pins s σ H xs us Q I r h => h.elim (fun h => call_min2 hc pins s σ H xs us Q I r h) fun h => call_min2S hc pins s σ H xs us Q I r h
section
variable {K : PySem.W.Frag}
theorem cl_two {f : Int → Int → Int} {g : Str → Str → Str} : Cl K (rTwo f g) (two2D f g) := by
  intro y Hf aS Γ σ H vs ds Φ Q A h ho k
  unfold two2D at ho
  split at ho
  · obtain ⟨v, u, rfl, g1, g'⟩ := h.two
    have e := g1.int
    have e' := g'.int
    subst e e'
    exact .inl ⟨_, _, rfl, k (.fro (.int _)) _ Hf H A (Same.refl _) (Keep.refl _ _) (Rep.int _) trivial ho⟩
  · obtain ⟨v, u, rfl, g1, g'⟩ := h.two
    have e := g1.str
    have e' := g'.str
    subst e e'
    exact .inr ⟨_, _, rfl, k (.fro (.str _)) _ Hf H A (Same.refl _) (Keep.refl _ _) (Rep.str _) trivial ho⟩
  · exact ho.elim
end

/-! ### sorted(xs), xs alike data -/
noncomputable def srtB : D → D → Bool := PySem.W.dataLe false D.py
/-- what can be sorted -/
structure SrtOk (xs : List D) : Prop where
  al : PySem.W.AllAlike (pyL xs)
  so : PySem.W.Sortable (pyL xs)
  dp : ∀ d ∈ pyL xs, d.depth ≤ 20
  ly : PyData.canLayAll0 (pyL xs) = true
theorem pyL_map : ∀ xs : List D, pyL xs = xs.map D.py
  | [] => rfl
  | x :: xs => by rw [pyL, List.map_cons, pyL_map xs]
def rSortA (K : PySem.W.Frag) : List V → Hp → VK → Prop := fun vs H Q => ∃ (a : Addr) (xs : List V) (ds : List PyData), vs = [V.ref a] ∧ SqL K H a xs ∧ DpAll K H xs ds ∧ PySem.W.AllAlike ds ∧ PySem.W.Sortable ds ∧ (∀ d ∈ ds, d.depth ≤ 20) ∧
  ∀ p, H p = none → Q (.ref p) (upd H p (.lst (((xs.zip ds).mergeSort (PySem.W.dataLe false fun q => q.2)).map fun q => q.1)))
section
variable {X : Cx}
theorem each_vals : ∀ {vs : List V} {us : List Value} {ds : List PyData}, Vals vs us → vs.length = ds.length → PySem.W.EachIs (fun u (p : V × PyData) => RelV p.1 u) us (vs.zip ds)
  | [], _, [], .nil, _ => .nil
  | v :: vs, _, d :: ds, .cons h r, e => by
    refine .cons h (each_vals r ?_)
    exact Nat.succ.inj e
theorem vals_each : ∀ {us : List Value} {ps : List (V × PyData)}, PySem.W.EachIs (fun u (p : V × PyData) => RelV p.1 u) us ps → Vals (ps.map fun p => p.1) us
  | _, _, .nil => .nil
  | _, _, .cons h r => .cons h (vals_each r)
theorem dpAll_len {K : PySem.W.Frag} {H : Hp} : ∀ {vs : List V} {ds : List PyData}, DpAll K H vs ds → vs.length = ds.length
  | _, _, .nil => rfl
  | _, _, .cons _ r => congrArg (· + 1) (dpAll_len r)
theorem zip_snd : ∀ {vs : List V} {ds : List PyData}, vs.length = ds.length → (vs.zip ds).map (fun p => p.2) = ds
  | [], [], _ => rfl
  | v :: vs, d :: ds, e => by
    rw [List.zip_cons_cons, List.map_cons, zip_snd (Nat.succ.inj e)]
theorem each_reads {h : Heap} : ∀ {us : List Value} {ds : List PyData} {as : List Addr}, ReadsAll h us ds as → PySem.W.EachIs (fun v k => ∃ as, Reads h v k as) us ds
  | _, _, _, .nil => .nil
  | _, _, _, .cons h r => .cons ⟨_, h⟩ (each_reads r)
theorem cr_sortA (hu : X.A.units + 64 < cLine) : CallR X (.builtin "sorted") (rSortA X.K) := by
  intro pins s σ H vs us Q I r h
  obtain ⟨a, xs, ds, rfl, hs, hd, hal, hso, hdp, q⟩ := h
  obtain ⟨its, rv, hl, hz⟩ := I.list hs
  obtain ⟨u, rfl, ru⟩ := vals1 r
  obtain rfl : u = Value.ref a := ru
  have hlen := dpAll_len hd
  have hil := rv.length
  obtain ⟨as, ra⟩ := Dp.readsAll I ds xs its hd rv
  have e0 := each_reads ra
  have hmono : ∀ {v : Value} {k : PyData}, (∃ as, Reads s.heap v k as) → ∃ as, Reads (PySem.W.sortingHeap (PySem.W.copyHeap s.heap its) (s.heap.objs.size + 1) its) v k as := fun {v k} ⟨as, r⟩ => ⟨as, Reads.keeps (fun b o e => PySem.W.sorting_copy_old e) r⟩
  have e1 := e0.mono fun _ _ z => hmono z
  refine PySem.W.sorted_vals (κ := PySem.W.dataKind _ ds) hl.isList (PySem.W.SortsAt.data e1 hal hso fun d hm => ?_) (by rw [← hil]; exact hz) ?_
  · have := hdp d hm
    show X.A.units + 1 + 1 + d.depth < cLine
    omega
  · have ko : PySem.W.KeyedOut false ds its (PySem.W.sortVals (PySem.W.dataKind (PySem.W.sortingHeap (PySem.W.copyHeap s.heap its) (s.heap.objs.size + 1) its) ds) false its its) := ⟨_, its, hal, rfl, e1⟩
    generalize PySem.W.sortVals (PySem.W.dataKind (PySem.W.sortingHeap (PySem.W.copyHeap s.heap its) (s.heap.objs.size + 1) its) ds) false its its = out at ko ⊢
    have hz2 := zip_snd hlen
    have ko2 : PySem.W.KeyedOut false ((xs.zip ds).map fun p => p.2) its out := by rw [hz2]; exact ko
    have e3 := PySem.W.keyedOut_each (R := fun u (p : V × PyData) => RelV p.1 u) (bs := xs.zip ds) (fun p => p.2) ko2 (each_vals rv hlen)
    have e4 := vals_each e3
    have hl4 := e4.length
    rw [List.length_map, List.length_mergeSort, List.length_zip, ← hlen, Nat.min_self] at hl4
    obtain ⟨ep, he'⟩ := PyProof.Rows.sortedAll_at s.heap its out.toArray
    refine ⟨.ref _, upd H (s.heap.objs.size + 1) (.lst (((xs.zip ds).mergeSort (PySem.W.dataLe false fun q => q.2)).map fun q => q.1)), I.laid (t' := s.toks) (fun _ _ => PyProof.Rows.sortedAll_old) (Nat.le_succ _) ⟨?_, _, ep, e4, ?_⟩, rfl, q _ (I.hok.fresh (Nat.le_succ _))⟩
    · rw [List.length_map, List.length_mergeSort, List.length_zip, ← hlen, Nat.min_self]
      exact hz
    · exact he'
end
def sortAD (ds : List D) (k : B → Prop) : Prop := match ds with
  | [.lst xs] => SrtOk xs ∧ k (.own (.lst (xs.mergeSort srtB)))
  | _ => False
section
variable {K : PySem.W.Frag} {H : Hp}
theorem sort_pairs {vs : List V} {ds : List D} (hl : vs.length = ds.length) : ((vs.zip (pyL ds)).mergeSort (PySem.W.dataLe false fun q => q.2)).map (fun q => q.1) = ((vs.zip ds).mergeSort (fun a b => srtB a.2 b.2)).map fun q => q.1 := by
  have e : vs.zip (pyL ds) = (vs.zip ds).map fun p => (p.1, p.2.py) := by
    rw [pyL_map, List.zip_map_right]
    rfl
  rw [e, ← List.map_mergeSort (r := fun a b => srtB a.2 b.2) (f := fun p : V × D => (p.1, p.2.py))]
  · rw [List.map_map]
    rfl
  · intro a _ b _
    rfl
theorem RepL.sort {vs : List V} {ds : List D} (r : RepL K H vs ds) : RepL K H (((vs.zip ds).mergeSort (fun a b => srtB a.2 b.2)).map fun q => q.1) (ds.mergeSort srtB) := by
  have hl := r.len
  have hz : ∀ {vs : List V} {ds : List D}, RepL K H vs ds → ∀ p ∈ vs.zip ds, Rep K H p.1 p.2 := fun {vs ds} r => by
    intro p hp
    obtain ⟨i, hi⟩ := List.getElem?_of_mem hp
    rw [List.getElem?_zip_eq_some] at hi
    obtain ⟨v, hv, hr⟩ := r.get hi.2
    rw [hi.1] at hv
    cases hv
    exact hr
  have e2 : ds.mergeSort srtB = ((vs.zip ds).mergeSort (fun a b => srtB a.2 b.2)).map fun q => q.2 := by
    rw [List.map_mergeSort (s := srtB) (f := fun q : V × D => q.2) (fun a _ b _ => rfl)]
    congr 1
    exact (List.map_snd_zip (by omega)).symm
  rw [e2]
  have mk : ∀ l : List (V × D), (∀ p ∈ l, Rep K H p.1 p.2) → RepL K H (l.map fun q => q.1) (l.map fun q => q.2) := fun l => by
    induction l with
    | nil => intro _; exact .nil
    | cons p l ih => intro h; exact .cons (h p (List.mem_cons_self ..)) (ih fun q hq => h q (List.mem_cons_of_mem _ hq))
  exact mk _ fun p hp => hz r p (List.mem_mergeSort.mp hp)
theorem cl_sortA : Cl K (rSortA K) sortAD := by
  intro y Hf aS Γ σ H vs ds Φ Q A h ho k
  unfold sortAD at ho
  split at ho
  · rename_i xs
    obtain ⟨v, rfl, g⟩ := h.one
    obtain ⟨a, us, rfl, f, r, _⟩ := g.lst A.co
    have hd : DpAll K H us (pyL xs) := RepL.dp (r.mono A.co.frz) ho.1.ly
    refine ⟨a, us, pyL xs, rfl, SqL.of f, hd, ho.1.al, ho.1.so, ho.1.dp, fun p hp => ?_⟩
    rw [sort_pairs r.len]
    exact k (.own (.lst _)) _ Hf _ (A.layO hp) (Same.refl _) (A.layK hp).2 ⟨p, rfl, ⟨_, upd_same, r.sort⟩, A.co.frzn hp, A.co.old hp, A.co.sne hp⟩ (A.apart (o := .lst []) hp) ho.2
  · exact ho.elim
/-! ### list(d), dict(d) -/
def lstAD (ds : List D) (k : B → Prop) : Prop := match ds with
  | [.lst xs] => k (.own (.lst xs))
  | [.tup xs] => k (.own (.lst xs))
  | [.dic kvs] => k (.own (.lst (kvs.map fun kv => kD kv.1)))
  | _ => False
def rListA (K : PySem.W.Frag) : List V → Hp → VK → Prop := fun xs H Q => rListC K xs H Q ∨ ∃ (a : Addr) (kvs : List (Key × V)), xs = [.ref a] ∧ Rd H a (.dK kvs) ∧ ∀ p, H p = none → Q (.ref p) (upd H p (.lst (kvs.map fun kv => kV kv.1)))
theorem call_listA {X : Cx} (hc : X.calm = true) : CallR X (.type "list") (rListA X.K) := fun pins s σ H xs us Q I r h => h.elim (fun h => call_list_of pins s σ H xs us Q I r h) fun h => call_listD hc pins s σ H xs us Q I r h
theorem keys_rep : ∀ {vs : List (Key × V)} {ds : List (Key × D)}, RepK K H vs ds → RepL K H (vs.map fun kv => kV kv.1) (ds.map fun kv => kD kv.1)
  | _, _, .nil => .nil
  | _, _, .cons _ r => .cons rep_kD (keys_rep r)
theorem cl_listA : Cl K (rListA K) lstAD := by
  intro y Hf aS Γ σ H vs ds Φ Q A h ho k
  unfold lstAD at ho
  split at ho
  · exact .inl (cl_list y Hf aS Γ σ H vs _ Φ Q A h ho k)
  · exact .inl (cl_list y Hf aS Γ σ H vs _ Φ Q A h ho k)
  · right
    obtain ⟨v, rfl, g⟩ := h.one
    obtain ⟨a, us, rfl, f, r, _⟩ := g.dic A.co
    exact ⟨a, us, rfl, f, fun p hp => k (.own (.lst _)) _ Hf _ (A.layO hp) (Same.refl _) (A.layK hp).2 ⟨p, rfl, ⟨_, upd_same, keys_rep r⟩, A.co.frzn hp, A.co.old hp, A.co.sne hp⟩ (A.apart (o := .lst []) hp) ho⟩
  · exact ho.elim
def dicCD (ds : List D) (k : B → Prop) : Prop := match ds with
  | [.dic kvs] => k (.own (.dic kvs))
  | _ => False
def rDicC : List V → Hp → VK → Prop := fun xs H Q => ∃ (a : Addr) (kvs : List (Key × V)), xs = [.ref a] ∧ Rd H a (.dK kvs) ∧ ∀ p, H p = none → Q (.ref p) (upd H p (.dK kvs))
theorem cl_dicC : Cl K rDicC dicCD := by
  intro y Hf aS Γ σ H vs ds Φ Q A h ho k
  unfold dicCD at ho
  split at ho
  · obtain ⟨v, rfl, g⟩ := h.one
    obtain ⟨a, us, rfl, f, r, _⟩ := g.dic A.co
    exact ⟨a, us, rfl, f, fun p hp => k (.own (.dic _)) _ Hf _ (A.layO hp) (Same.refl _) (A.layK hp).2 ⟨p, rfl, ⟨_, upd_same, r⟩, A.co.frzn hp, A.co.old hp, A.co.sne hp⟩ (A.apart (o := .lst []) hp) ho⟩
  · exact ho.elim
end

end
section
/-! DLG: f-strings, split, join, find, == of dicts, lists but looked at walked; short rules. -/

/-! ### f-strings -/
abbrev DJ := Str → Ev → (Str → Ev → Prop) → Prop
def dJnil : DJ := fun acc Γ Φ => Φ acc Γ
def dJcons (T : DE) (J : DJ) : DJ := fun acc Γ Φ => T Γ fun d Γ1 => match d with
  | .str y => (acc ++ y).length ≤ sizeLine ∧ J (acc ++ y) Γ1 Φ
  | _ => False
def dFmt (T : DE) : DE := fun Γ Φ => T Γ fun d Γ1 => match d with
  | .str y => y.length ≤ sizeLine ∧ Φ (.str y) Γ1
  | .int i => i.natAbs.log2 < 1920 ∧ Φ (.str (toString i)) Γ1
  | _ => False
def dFs (J : DJ) : DE := fun Γ Φ => J Str.empty Γ fun s Γ1 => Φ (.str s) Γ1
def SJ (K : PySem.W.Frag) (ts : List TE) (J : DJ) : Prop := ∀ acc y Hf aS Γ σ H Φ (Q : Str → Hp → Prop), At K y Hf aS Γ σ H → J acc Γ Φ →
  (∀ out Γ' Hf' H', At K y Hf' aS Γ' σ H' → Same Hf Hf' → Keep aS H H' → Φ out Γ' → Q out H') → tJs ts acc σ H Q
section
variable {K : PySem.W.Frag} {t : TE} {T : DE} {ts : List TE} {J : DJ}
theorem sj_nil : SJ K [] dJnil := fun acc y Hf aS Γ σ H Φ Q A hT k => k acc Γ Hf H A (Same.refl _) (Keep.refl _ _) hT
theorem sj_cons (h : SE K t T) (g : SJ K ts J) : SJ K (t :: ts) (dJcons T J) := fun acc y Hf aS Γ σ H Φ Q A hT k =>
  h y Hf aS Γ σ H _ _ A hT fun d Γ1 v Hf1 H1 A1 e1 k1 r1 hT1 => by
    split at hT1
    · rename_i z
      cases r1
      exact ⟨z, rfl, hT1.1, g _ y Hf1 aS Γ1 σ H1 _ _ A1 hT1.2 fun out Γ2 Hf2 H2 A2 e2 k2 hΦ => k out Γ2 Hf2 H2 A2 (e1.trans e2) (k1.trans k2) hΦ⟩
    · exact hT1.elim
theorem se_fmt (h : SE K t T) : SE K (tFmt t) (dFmt T) := fun y Hf aS Γ σ H Φ Q A hT k =>
  h y Hf aS Γ σ H _ _ A hT fun d Γ1 v Hf1 H1 A1 e1 k1 r1 hT1 => by
    split at hT1
    · rename_i z
      cases r1
      exact .inl ⟨z, rfl, hT1.1, k (.str z) Γ1 _ Hf1 H1 A1 e1 k1 (.str _) hT1.2⟩
    · rename_i i
      cases r1
      exact .inr ⟨i, rfl, hT1.1, k (.str _) Γ1 _ Hf1 H1 A1 e1 k1 (.str _) hT1.2⟩
    · exact hT1.elim
theorem se_fs (g : SJ K ts J) : SE K (fun σ H Q => tJs ts Str.empty σ H fun out H1 => Q (.str out) H1) (dFs J) := fun y Hf aS Γ σ H Φ Q A hT k =>
  g _ y Hf aS Γ σ H _ _ A hT fun out Γ1 Hf1 H1 A1 e1 k1 hΦ => k (.str out) Γ1 _ Hf1 H1 A1 e1 k1 (.str _) hΦ
end
structure PDJ (X : Cx) (es : List Expr) (ts : List TE) (J : DJ) : Prop where
  p : PJ X es ts
  s : SJ X.K ts J
section
variable {X : Cx} {e v1 v2 : Expr} {es rest : List Expr} {t : TE} {T : DE} {ts : List TE} {J : DJ} {pos : Pos}
theorem j_nil : PDJ X [] [] dJnil := ⟨.nil, sj_nil⟩
theorem j_cons (h : PDE X e t T) (g : PDJ X es ts J) : PDJ X (e :: es) (t :: ts) (dJcons T J) := ⟨.cons h.p g.p, sj_cons h.s g.s⟩
theorem e_fmt (h : PDE X e t T) : PDE X (.FormattedValue e (-1) none pos) (tFmt t) (dFmt T) := ⟨pe_fmt h.p, se_fmt h.s⟩
theorem e_fs (g : PDJ X (v1 :: v2 :: rest) ts J) : PDE X (.JoinedStr (v1 :: v2 :: rest) pos) (fun σ H Q => tJs ts Str.empty σ H fun out H1 => Q (.str out) H1) (dFs J) := ⟨pe_joined g.p, se_fs g.s⟩
end

/-! ### split, join, find -/
section
variable {K : PySem.W.Frag} {t u : TE} {T U : DE}
def dM1 (f : D → D → (B → Prop) → Prop) (T U : DE) : DO := fun Γ Φ => T Γ fun d Γ1 => (∃ x, d = .str x) ∧ U Γ1 fun e Γ2 => f d e fun b => Φ b Γ2
/-- a method of a text with one argument, by values -/
def M1 (K : PySem.W.Frag) (r : V → List V → Hp → VK → Prop) (f : D → D → (B → Prop) → Prop) : Prop := ∀ y Hf aS Γ σ H x z dz Φ Q, At K y Hf aS Γ σ H → PRep K Hf aS H z dz → f (.str x) dz Φ →
  (∀ b v Hf' H', At K y Hf' aS Γ σ H' → Same Hf Hf' → Keep aS H H' → BAt K y Hf' aS H' v b → Apart v b Γ σ → Φ b → Q v H') → r (.str x) [z] H Q
theorem so_m1 {r : V → List V → Hp → VK → Prop} {f : D → D → (B → Prop) → Prop} (hr : M1 K r f) (h : SE K t T) (g : SQ K u U) : SO K (tM1 r t u) (dM1 f T U) := fun y Hf aS Γ σ H Φ Q A hT k =>
  h y Hf aS Γ σ H _ _ A hT fun d Γ1 v Hf1 H1 A1 e1 k1 r1 ⟨⟨x, ex⟩, hT1⟩ => by
    subst ex
    cases r1
    exact ⟨⟨x, rfl⟩, g y Hf1 aS Γ1 σ H1 _ _ A1 hT1 fun e Γ2 w Hf2 H2 A2 e2 k2 r2 hT2 =>
      hr y Hf2 aS Γ2 σ H2 x w e _ _ A2 r2 hT2 fun b v Hf3 H3 A3 e3 k3 hb ha hΦ => k b Γ2 v Hf3 H3 A3 ((e1.trans e2).trans e3) ((k1.trans k2).trans k3) hb ha hΦ⟩
def rSplit : V → List V → Hp → VK → Prop := fun x xs H Q => ∃ a b, x = .str a ∧ xs = [.str b] ∧ (b.length == 0) = false ∧ a.length + 2 ≤ sizeLine ∧ rNewStrs (Txt.split a b) H Q
def splitD (a b : D) (k : B → Prop) : Prop := match a, b with
  | .str x, .str z => (z.length == 0) = false ∧ x.length + 2 ≤ sizeLine ∧ k (.own (.lst ((Txt.split x z).map D.str)))
  | _, _ => False
theorem m1_split : M1 K rSplit splitD := by
  intro y Hf aS Γ σ H x z dz Φ Q A hz hf k
  cases dz with
  | str w =>
    have e := hz.str
    subst e
    exact ⟨x, w, rfl, rfl, hf.1, hf.2.1, fun p hp => k (.own (.lst _)) _ Hf _ (A.layO hp) (Same.refl _) (A.layK hp).2 ⟨p, rfl, ⟨_, upd_same, RepL.strs _⟩, A.co.frzn hp, A.co.old hp, A.co.sne hp⟩ (A.apart (o := .lst []) hp) hf.2.2⟩
  | _ => exact hf.elim
def rJoin (K : PySem.W.Frag) : V → List V → Hp → VK → Prop := fun x xs H Q => ∃ a p, ∃ ys : List Str, x = .str a ∧ xs = [.ref p] ∧ (SqL K H p (ys.map V.str) ∨ SqT K H p (ys.map V.str)) ∧ (ys.map (·.length)).sum + ys.length * a.length ≤ 16777216 ∧ Q (.str (Txt.join a ys)) H
def joinD (a b : D) (k : B → Prop) : Prop := match a, b with
  | .str x, .lst zs => ∃ ys : List Str, zs = ys.map D.str ∧ (ys.map (·.length)).sum + ys.length * x.length ≤ 16777216 ∧ k (.fro (.str (Txt.join x ys)))
  | .str x, .tup zs => ∃ ys : List Str, zs = ys.map D.str ∧ (ys.map (·.length)).sum + ys.length * x.length ≤ 16777216 ∧ k (.fro (.str (Txt.join x ys)))
  | _, _ => False
theorem m1_join : M1 K (rJoin K) joinD := by
  intro y Hf aS Γ σ H x z dz Φ Q A hz hf k
  cases dz with
  | lst zs =>
    obtain ⟨ys, rfl, h1, h2⟩ := hf
    obtain ⟨a, vs, rfl, f, r, _⟩ := hz.lst A.co
    have e := RepL.strs_of r
    subst e
    exact ⟨x, a, ys, rfl, rfl, .inl (SqL.of f), h1, k (.fro (.str _)) _ Hf H A (Same.refl _) (Keep.refl _ _) (Rep.str _) trivial h2⟩
  | tup zs =>
    obtain ⟨ys, rfl, h1, h2⟩ := hf
    obtain ⟨a, vs, rfl, f, _, r⟩ := hz.tup A.co
    have e := RepL.strs_of r
    subst e
    exact ⟨x, a, ys, rfl, rfl, .inr (SqT.of f), h1, k (.fro (.str _)) _ Hf H A (Same.refl _) (Keep.refl _ _) (Rep.str _) trivial h2⟩
  | _ => exact hf.elim
def rFind : V → List V → Hp → VK → Prop := fun x xs H Q => ∃ a b, x = .str a ∧ xs = [.str b] ∧ Q (.int (Txt.find a b)) H
def findD (a b : D) (k : B → Prop) : Prop := match a, b with
  | .str x, .str z => k (.fro (.int (Txt.find x z)))
  | _, _ => False
theorem m1_find : M1 K rFind findD := by
  intro y Hf aS Γ σ H x z dz Φ Q A hz hf k
  cases dz with
  | str w =>
    have e := hz.str
    subst e
    exact ⟨x, w, rfl, rfl, k (.fro (.int _)) _ Hf H A (Same.refl _) (Keep.refl _ _) (Rep.int _) trivial hf⟩
  | _ => exact hf.elim
end
section
variable {X : Cx} {o e : Expr} {t u : TE} {T U : DE} {apos pos : Pos}
theorem o_split (h : PDE X o t T) (g : PDQ X e u U) (hs : starEach [e] X.env = [(false, eval e X.env)] := by rfl) (hbase : attributeBase o "split" X.env (eval o X.env) = eval o X.env := by rfl) (hline : (apos.endLine == pos.line) = true := by rfl) :
    PDO X (.Call (.Attribute o "split" apos) [e] [] pos) (tM1 rSplit t u) (dM1 splitD T U) := ⟨pe_split h.p g.p hs hbase hline, so_m1 m1_split h.s g.s⟩
theorem o_join (h : PDE X o t T) (g : PDQ X e u U) (hs : starEach [e] X.env = [(false, eval e X.env)] := by rfl) (hbase : attributeBase o "join" X.env (eval o X.env) = eval o X.env := by rfl) (hline : (apos.endLine == pos.line) = true := by rfl) :
    PDO X (.Call (.Attribute o "join" apos) [e] [] pos) (tM1 (rJoin X.K) t u) (dM1 joinD T U) := ⟨pe_join h.p g.p hs hbase hline, so_m1 m1_join h.s g.s⟩
theorem o_find (h : PDE X o t T) (g : PDQ X e u U) (hs : starEach [e] X.env = [(false, eval e X.env)] := by rfl) (hbase : attributeBase o "find" X.env (eval o X.env) = eval o X.env := by rfl) (hline : (apos.endLine == pos.line) = true := by rfl) :
    PDO X (.Call (.Attribute o "find" apos) [e] [] pos) (tM1 rFind t u) (dM1 findD T U) := ⟨pe_m1 PySem.F.slot_str_find PySem.F.type_str_find mt_find h.p g.p hs hbase hline, so_m1 m1_find h.s g.s⟩
end

/-! ### == of dicts -/
def dicEq (ks ls : List (Key × D)) : Bool := decide (ks.length = ls.length) && ks.all fun p => match valD ls p.1 with
  | some u => eqB p.2 u
  | none => false
def dicOk (ks : List (Key × D)) : Prop := ∀ p ∈ ks, D.cmp p.2
def eqXD (a b : D) (k : B → Prop) : Prop := match a, b with
  | .dic ks, .dic ls => dicOk ks ∧ dicOk ls ∧ k (.fro (.bl (dicEq ks ls)))
  | a, b => eqD false a b k
def rEqK (K : PySem.W.Frag) : R2 := fun x y H Q => ∃ a b ks ls da db, x = .ref a ∧ y = .ref b ∧ Rd H a (.dK ks) ∧ Rd H b (.dK ls) ∧ RepK K H ks da ∧ RepK K H ls db ∧ dicOk da ∧ dicOk db ∧ Q (.bl (dicEq da db)) H
section
variable {K : PySem.W.Frag}
theorem cmp_lay {d : D} (g : d.cmp) : d.py.canLay0 = true := SeqAt.canLay_of_shaped g
theorem hits_D {P : Program} {w : World} {A : Around} {s : Shared} {H : Hp} {vb : List (Key × Value)} {ls : List (Key × V)} {db : List (Key × D)} (rb : KV ls vb) (qb : RepK K H ls db)
    (ih : ∀ (x : V) (v : Value) (d : D) (y : V) (u : Value) (e : D), Rep K H x d → RelV x v → d.cmp → Rep K H y e → RelV y u → e.cmp → SeqAt.EqP P w A s v u (eqB d e)) (hb : dicOk db) :
    ∀ {ks : List (Key × V)} {va : List (Key × Value)} {da : List (Key × D)}, KV ks va → RepK K H ks da → dicOk da → PySem.W.KeqHitsP P w A s vb va (da.all fun p => match valD db p.1 with
      | some u => eqB p.2 u
      | none => false)
  | [], va, _, ra, .nil, _ => by
    cases ra
    exact .nil
  | (k, x) :: ks, va, _, ra, .cons (d := d) (ds := da) h t, hd => by
    cases ra with
    | @cons _ q _ qs h1 t1 =>
      obtain ⟨key, v⟩ := q
      obtain ⟨hk, hv⟩ := h1
      have hk : k = key := hk
      subst hk
      have tail := hits_D rb qb ih hb t1 t fun p hp => hd p (List.mem_cons_of_mem _ hp)
      rw [List.all_cons]
      have vv := qb.val k
      have rr := rb.val k
      cases e : valD db k with
      | none =>
        have hn : valV ls k = none := by
          cases z : valV ls k with
          | none => rfl
          | some _ =>
            have := vv.1
            rw [z, e] at this
            cases this
        rw [hn] at rr
        have hn2 := RelO.none_of rr
        simp only [e, Bool.false_and]
        exact .miss hn2
      | some u =>
        obtain ⟨z, hz, hr⟩ := vv.2 u e
        rw [hz] at rr
        obtain ⟨y, hy, ry⟩ := rr.some_of
        simp only [e]
        have hu : u.cmp := by
          have hf : (db.find? fun kv => decide (kv.1 = k)).map (·.2) = some u := e
          cases q : db.find? fun kv => decide (kv.1 = k) with
          | none => rw [q] at hf; cases hf
          | some p =>
            rw [q] at hf
            have hf := Option.some.inj hf
            subst hf
            exact hb p (List.mem_of_find?_eq_some q)
        exact .hit hy (ih x v d z y u h hv (hd (k, d) (List.mem_cons_self ..)) hr ry hu) tail
theorem op_eqK {X : Cx} (hu : X.A.units + 65 < cLine) : OpR X (compareOp .Eq) (rEqK X.K) := by
  intro pins s σ H x y v u Q I rx ry h
  obtain ⟨a, b, ks, ls, da, db, rfl, rfl, ha, hb, ra, rb, oa, ob, q⟩ := h
  cases (show v = Value.ref a from rx)
  cases (show u = Value.ref b from ry)
  obtain ⟨_, ya, va, r1, d1⟩ := (show ObjOk X.prog X.w H s.heap a (.dK ks) from ha.ok I.hok)
  obtain ⟨_, yb, vb, r2, d2⟩ := (show ObjOk X.prog X.w H s.heap b (.dK ls) from hb.ok I.hok)
  have ih : ∀ (x : V) (v : Value) (d : D) (y : V) (u : Value) (e : D), Rep X.K H x d → RelV x v → d.cmp → Rep X.K H y e → RelV y u → e.cmp → SeqAt.EqP X.prog X.w X.A.in1 s v u (eqB d e) := fun x v d y u e hx rx cx hy ry cy => by
    obtain ⟨as, r1⟩ := Dp.reads I d.py x v (hx.dp (cmp_lay cx)) rx
    obtain ⟨bs, r2⟩ := Dp.reads I e.py y u (hy.dp (cmp_lay cy)) ry
    exact (PySem.W.keq_at (A := X.A) r1 r2 cx cy (by show X.A.units + 1 + 64 < cLine; omega)).eqP
  have hl : da.length = ks.length := ra.len.symm
  have hl2 : db.length = ls.length := rb.len.symm
  refine PySem.W.rcP_dicts (knd := mixKind X.prog X.w) (r := da.all fun p => match valD db p.1 with
      | some u => eqB p.2 u
      | none => false) ya yb d1 d2 (by omega) (fun _ => hits_D r2 rb ih ob r1 ra oa) X.xe _ ⟨.bl (dicEq da db), H, I, ?_, q⟩
  have e : (va.length == vb.length) = decide (da.length = db.length) := by
    rw [hl, hl2, r1.length, r2.length]
    by_cases e : va.length = vb.length <;> simp [e]
  show Value.bool _ = Value.bool _
  unfold dicEq
  rw [e]
theorem op2_eqX : Op2 K (fun x y H Q => rEqA K false x y H Q ∨ rEqK K x y H Q) eqXD := by
  intro y Hf aS Γ σ H x x' dx dy Φ Q A h1 h2 ho k
  unfold eqXD at ho
  split at ho
  · right
    obtain ⟨oa, ob, hΦ⟩ := ho
    have r1 := h1.hid A.co
    obtain ⟨a, vs, rfl, f1, q1, _⟩ := h1.dic A.co
    obtain ⟨b, us, rfl, f2, q2, _⟩ := h2.dic A.co
    exact ⟨a, b, vs, us, _, _, rfl, rfl, f1, f2, q1.mono A.co.frz, q2.mono A.co.frz, oa, ob, k (.fro (.bl _)) _ Hf H A (Same.refl _) (Keep.refl _ _) (Rep.bl _) trivial hΦ⟩
  · left
    exact op2_eq y Hf aS Γ σ H x x' dx dy Φ Q A h1 h2 ho k
theorem op_eqX {X : Cx} (hu : X.A.units + 65 < cLine) : OpR X (compareOp .Eq) (fun x y H Q => rEqA X.K false x y H Q ∨ rEqK X.K x y H Q) := (op_eqA (by omega)).or (op_eqK hu)
end

end
section
/-! DLH: short rules: comprehensions over dicts, dict comprehensions, lists but looked at walked. -/
theorem hu65 {A : Around} {k : Nat} (hr : Room k A) : A.units + 65 < cLine := by have := hr.un; omega
section
variable {K : PySem.W.Frag} {y : Yn} {Hf Hf' : Hp} {aS : Option Addr} {Γ : Ev} {σ : L2.St} {H H' : Hp} {S : Option Sto}
theorem so_dcD {p : DPa} (ok : p.ok K) (w : DWk) {g : TG} {G : DG} {js : List Nat} {tt : TT} {Tt : DT} {tk te : TE} {Tk Te : DE} {vs : List Nat} (hg : SG K g G js) (ht : ST K tt Tt) (hkk : SE K tk Tk) (he : SE K te Te) (hj : ∀ j ∈ js, j ∈ vs) :
    SO K (fun σ H Q => tLockE (tDc (w.wi (p.rd K)) g tt tk te vs) σ H Q ∨ tDc (w.wi (p.rd K)) g tt tk te vs σ H Q) (dDc (dWk p w) G Tt Tk Te vs) := by
  intro y Hf aS Γ σ H Φ Q A hT k
  obtain ⟨d, kvs, ds, hd, hr, hk, hk', rd⟩ := pa_at ok A hT
  rcases hd with hd | ⟨o, hd⟩
  · left
    have hH := A.co.frz _ _ hd
    refine ⟨d, .dK kvs, hH, trivial, fun od => ?_⟩
    have A1 := A.lock hd od
    have sw : Swap d kvs Hf (upd Hf d (.frz od (.dK kvs))) := ⟨fun a n => upd_ne n, .inl hd, .inr ⟨od, upd_same⟩⟩
    refine dc_at A1 (fun Φ R hW kk => wk_at w A1 upd_same (RepK.swap sw hr) (fun k h => hk k (dPa_fr.mp h)) (fun Q q => rd _ Q (fun a o n e => by rw [upd_ne n]; exact e) q) Φ R hW kk) hg ht hkk he hj
      (fun r Γ'' => match r with
        | .own (.dic acc) => Φ (.own (.dic acc)) (Γ.w (wipeE Γ.sl vs) Γ''.S)
        | _ => False) _ ?_ fun r Γ' v Hf' H' A' e1 k1 hb ha hΦ => ?_
    · refine dPa_fr.mpr (hk' _ ?_)
      have h1 := hk _ hT
      have h2 : (wipeE Γ.fr.sl vs).map froB = (wipeE Γ.sl vs).map froB := wipe_fro Γ.sl vs
      show dcGo G Tt Tk Te ((wipeE Γ.fr.sl vs).map froB) (w.items ds) [] Γ.S _
      rw [h2]
      exact h1
    · cases r with
      | fro _ => exact hΦ.elim
      | sto => exact hΦ.elim
      | lk _ => exact hΦ.elim
      | own o =>
        cases o with
        | lst _ => exact hΦ.elim
        | ins _ _ => exact hΦ.elim
        | dic acc =>
          obtain ⟨D, rfl, ⟨ws, f1, f2⟩, f3, f4, f5⟩ := hb
          obtain ⟨c2, sw2⟩ := Co.unlock A hd (A'.co)
          have f4 : upd H d (.frz od (.dK kvs)) D = none := f4
          have nD : D ≠ d := fun e => by rw [e, upd_same] at f4; cases f4
          rw [upd_ne nD] at f4
          refine ⟨A'.co.frz _ _ (e1 _ _ upd_same), ?_⟩
          have A2 := A.behind c2
          have A3 : At K y (upd Hf' d (.dK kvs)) aS (Γ.w (wipeE Γ.sl vs) Γ'.S) σ (upd H' d (.dK kvs)) := A2.less (wipeE_len _ _) fun i b h => (wipeE_get h).1
          refine k (.own (.dic acc)) _ (.ref D) _ _ A3 c2.mon c2.keep ⟨D, rfl, ⟨ws, by rw [upd_ne nD]; exact f1, RepK.swap sw2 f2⟩, by rw [upd_ne nD]; exact f3, A.co.old f4, A.co.sne f4⟩ (fun i o hi2 hσ => ?_) hΦ
          have hi3 := all_less (wipeE_len _ _) (fun i b h => (wipeE_get h).1) hi2
          exact A.apart (o := o) f4 i o hi3 hσ
  · right
    exact dc_at A (fun Φ R hW kk => wk_at w A hd hr hk (fun Q q => rd _ Q (fun a o n e => e) q) Φ R hW kk) hg ht hkk he hj Φ Q hT k
end
structure PDPa (X : Cx) (e : Expr) (q : DPa) : Prop where
  p : PE X e (q.rd X.K)
  ok : q.ok X.K
structure PDWk (X : Cx) (tg iter : Expr) (q : DPa) (w : DWk) : Prop where
  p : PI X tg iter (w.wi (q.rd X.K))
  ok : q.ok X.K
section
variable {X : Cx} {ξ : WX} {e tg iter : Expr} {pos p1 apos cpos : Pos} {p : DPa} {w : DWk} {x f c : Str} {flds : List Str}
theorem pa_sl (i : Nat) (hN : X.N[i]? = some x := by rfl) (hv : Vis X.env.scope x := by first | exact Or.inl rfl | exact Or.inr (Or.inl rfl) | exact Or.inr (Or.inr rfl)) (hd : (x == ("__debug__" : Str)) = false := by decide)
    (hcd : (x == ("__classdict__" : Str)) = false := by decide) : PDPa X (.Name x pos) (.sl i) := ⟨pv i hN hv hd hcd, trivial⟩
theorem pa_fl (i j : Nat) (I : Ci X.K c flds) (hf : flds[j]? = some f := by rfl) (hN : X.N[i]? = some x := by rfl) (hv : Vis X.env.scope x := by first | exact Or.inl rfl | exact Or.inr (Or.inl rfl) | exact Or.inr (Or.inr rfl)) (hd : (x == ("__debug__" : Str)) = false := by decide)
    (hcd : (x == ("__classdict__" : Str)) = false := by decide) (hb : attributeBase (.Name x p1) f X.env (eval (.Name x p1) X.env) = eval (.Name x p1) X.env := by rfl) : PDPa X (.Attribute (.Name x p1) f pos) (.fl i c f flds j) :=
  ⟨pe_fld (pv i hN hv hd hcd) hb, I, hf⟩
theorem w_keys (h : PDPa X e p) : PDWk X tg e p .ks := ⟨pi_keys h.p, h.ok⟩
theorem w_items {elts : List Expr} {kk : Nat} {tpos : Pos} (h : PDPa X e p) (hbase : attributeBase e "items" X.env (eval e X.env) = eval e X.env := by rfl) (hline : (apos.endLine == cpos.line) = true := by rfl) :
    PDWk X (.Tuple elts kk tpos) (.Call (.Attribute e "items" apos) [] [] cpos) p .its := ⟨pi_items h.p hbase hline, h.ok⟩
theorem w_vals (h : PDPa X e p) (hbase : attributeBase e "values" X.env (eval e X.env) = eval e X.env := by rfl) (hline : (apos.endLine == cpos.line) = true := by rfl) :
    PDWk X tg (.Call (.Attribute e "values" apos) [] [] cpos) p .vs := ⟨pi_values h.p hbase hline, h.ok⟩
theorem pe_lock2 {t : TE} (h : PE X e t) : PE X e (fun σ H Q => tLockE t σ H Q ∨ t σ H Q) := ⟨fun pins s σ H Q I hw => hw.elim ((pe_lock h).run pins s σ H Q I) (h.run pins s σ H Q I)⟩
variable {elt kx vx : Expr} {ifs : List Expr} {scope : Scope} {g : TG} {G : DG} {js : List Nat} {tt : TT} {DT1 : DT} {t tk : TE} {T Tk : DE} {wi : TI} {W : DA}
theorem o_lcD (own : List (Str × Nat)) (hN : X.N.Nodup) (hi : PDWk X tg iter p w) (ok : blkC X.N X.env.scope scope own = true)
    (hg : ∀ (s : Shared) (H : Hp) (C : Addr) (cl : List (Str × Addr)) (fp : List Addr), PDG (X.blk s H scope (compEnvC scope cl C X.env) fp) tg g G js)
    (ht : ∀ (s : Shared) (H : Hp) (C : Addr) (cl : List (Str × Addr)) (fp : List Addr), PDTs (X.blk s H scope (compEnvC scope cl C X.env) fp) ifs tt DT1)
    (he : ∀ (s : Shared) (H : Hp) (C : Addr) (cl : List (Str × Addr)) (fp : List Addr), PDE (X.blk s H scope (compEnvC scope cl C X.env) fp) elt t T)
    (hj : ∀ j ∈ js, j ∈ own.map (·.2)) (hc : X.calm = true := by rfl) (hs : ∀ x, foldedSetIterable iter X.env x = pure x := by intro _; rfl) :
    PDO X (.ListComp elt [⟨tg, iter, ifs, 0⟩] scope pos) (fun σ H Q => tLockE (tLc (w.wi (p.rd X.K)) g tt t (own.map (·.2))) σ H Q ∨ tLc (w.wi (p.rd X.K)) g tt t (own.map (·.2)) σ H Q) (dLc (dWk p w) G DT1 T (own.map (·.2))) :=
  ⟨pe_lock2 (pe_lc hc hN hi.p (blkOk_by ok) (fun s H C cl fp => (hg s H C cl fp).p) (fun s H C cl fp => (ht s H C cl fp).p) (fun s H C cl fp => (he s H C cl fp).p) hs),
    so_lcD hi.ok w (hg X.s_0 X.H_0 0 [] []).s (ht X.s_0 X.H_0 0 [] []).s (he X.s_0 X.H_0 0 [] []).s hj⟩
theorem o_dc (own : List (Str × Nat)) (hN : X.N.Nodup) (hi : PDI X tg iter wi W) (ok : blkC X.N X.env.scope scope own = true)
    (hg : ∀ (s : Shared) (H : Hp) (C : Addr) (cl : List (Str × Addr)) (fp : List Addr), PDG (X.blk s H scope (compEnvC scope cl C X.env) fp) tg g G js)
    (ht : ∀ (s : Shared) (H : Hp) (C : Addr) (cl : List (Str × Addr)) (fp : List Addr), PDTs (X.blk s H scope (compEnvC scope cl C X.env) fp) ifs tt DT1)
    (hk : ∀ (s : Shared) (H : Hp) (C : Addr) (cl : List (Str × Addr)) (fp : List Addr), PDE (X.blk s H scope (compEnvC scope cl C X.env) fp) kx tk Tk)
    (he : ∀ (s : Shared) (H : Hp) (C : Addr) (cl : List (Str × Addr)) (fp : List Addr), PDE (X.blk s H scope (compEnvC scope cl C X.env) fp) vx t T)
    (hj : ∀ j ∈ js, j ∈ own.map (·.2)) (hc : X.calm = true := by rfl) (hs : ∀ x, foldedSetIterable iter X.env x = pure x := by intro _; rfl) :
    PDO X (.DictComp kx vx [⟨tg, iter, ifs, 0⟩] scope pos) (tDc wi g tt tk t (own.map (·.2))) (dDc W G DT1 Tk T (own.map (·.2))) :=
  ⟨pe_dc hc hN hi.p (blkOk_by ok) (fun s H C cl fp => (hg s H C cl fp).p) (fun s H C cl fp => (ht s H C cl fp).p) (fun s H C cl fp => (hk s H C cl fp).p) (fun s H C cl fp => (he s H C cl fp).p) hs,
    so_dc hi.s (hg X.s_0 X.H_0 0 [] []).s (ht X.s_0 X.H_0 0 [] []).s (hk X.s_0 X.H_0 0 [] []).s (he X.s_0 X.H_0 0 [] []).s hj⟩
theorem o_dcD (own : List (Str × Nat)) (hN : X.N.Nodup) (hi : PDWk X tg iter p w) (ok : blkC X.N X.env.scope scope own = true)
    (hg : ∀ (s : Shared) (H : Hp) (C : Addr) (cl : List (Str × Addr)) (fp : List Addr), PDG (X.blk s H scope (compEnvC scope cl C X.env) fp) tg g G js)
    (ht : ∀ (s : Shared) (H : Hp) (C : Addr) (cl : List (Str × Addr)) (fp : List Addr), PDTs (X.blk s H scope (compEnvC scope cl C X.env) fp) ifs tt DT1)
    (hk : ∀ (s : Shared) (H : Hp) (C : Addr) (cl : List (Str × Addr)) (fp : List Addr), PDE (X.blk s H scope (compEnvC scope cl C X.env) fp) kx tk Tk)
    (he : ∀ (s : Shared) (H : Hp) (C : Addr) (cl : List (Str × Addr)) (fp : List Addr), PDE (X.blk s H scope (compEnvC scope cl C X.env) fp) vx t T)
    (hj : ∀ j ∈ js, j ∈ own.map (·.2)) (hc : X.calm = true := by rfl) (hs : ∀ x, foldedSetIterable iter X.env x = pure x := by intro _; rfl) :
    PDO X (.DictComp kx vx [⟨tg, iter, ifs, 0⟩] scope pos) (fun σ H Q => tLockE (tDc (w.wi (p.rd X.K)) g tt tk t (own.map (·.2))) σ H Q ∨ tDc (w.wi (p.rd X.K)) g tt tk t (own.map (·.2)) σ H Q) (dDc (dWk p w) G DT1 Tk T (own.map (·.2))) :=
  ⟨pe_lock2 (pe_dc hc hN hi.p (blkOk_by ok) (fun s H C cl fp => (hg s H C cl fp).p) (fun s H C cl fp => (ht s H C cl fp).p) (fun s H C cl fp => (hk s H C cl fp).p) (fun s H C cl fp => (he s H C cl fp).p) hs),
    so_dcD hi.ok w (hg X.s_0 X.H_0 0 [] []).s (ht X.s_0 X.H_0 0 [] []).s (hk X.s_0 X.H_0 0 [] []).s (he X.s_0 X.H_0 0 [] []).s hj⟩
end
/-! ### for x in a parameter that is but looked at -/
def dISqV (i : Nat) : DA := fun Γ Φ => match Γ.sl[i]? with
  | some (some (.lk (.lst ds))) => Φ ds Γ
  | some (some (.lk (.tup ds))) => Φ ds Γ
  | _ => dISq (dVar i) Γ Φ
section
variable {K : PySem.W.Frag}
theorem it_lk {y0 : Yn} {Hf1 : Hp} {a : Addr} {vs : List V} {ds : List D} (h : y0.H0 a = some (.lst vs)) (n : y0.a0 ≠ some a) (r : RepL K Hf1 vs ds) : ItOk K y0 Hf1 (Itl K a) ds := by
  have hs : ∀ {y' : Yn} {Hf2 : Hp} {aS2 : Option Addr} {Γ2 : Ev} {σ2 : L2.St} {H2 : Hp}, At K y' Hf2 aS2 Γ2 σ2 H2 → Ko y0 y' → SqL K H2 a vs := fun A2 ko => SqL.of (A2.co.kept a _ (ko a _ h n).1 (ko a _ h n).2)
  refine ⟨fun i y' Hf2 aS2 Γ2 σ2 H2 A2 e2 ko hi => ?_, fun y' Hf2 aS2 Γ2 σ2 H2 A2 e2 ko => ⟨vs, hs A2 ko, by rw [r.len]; exact Nat.le_refl _⟩⟩
  have hq := hs A2 ko
  have hd : ds[i]? = some ds[i] := List.getElem?_eq_getElem hi
  obtain ⟨w, hw, hr⟩ := r.get hd
  refine ⟨⟨vs, w, hq, hw⟩, fun x H' hy => ?_⟩
  obtain ⟨rfl, hx⟩ := hy
  have := hx vs hq
  rw [hw] at this
  have := Option.some.inj this
  subst this
  exact ⟨Hf2, A2, Same.refl _, Keep.refl _ _, _, hd, hr.mono e2⟩
theorem si_seqV (i : Nat) : SI K (iSeq K (tVar i)) (dISqV i) := by
  intro y Hf aS Γ σ H Φ R A hT k
  unfold dISqV at hT
  split at hT
  · rename_i ds e
    obtain ⟨v, hv, hb⟩ := A.slot i _ e
    refine ⟨v, hv, ?_⟩
    rcases hb with hb | ⟨a, o, e1, e2, h1, h2⟩
    · cases hb with
      | lst f1 f2 => exact .inl ⟨_, rfl, ⟨_, SqL.of (A.co.frz _ _ f1)⟩, k ds Γ _ Hf H A (Same.refl _) (Keep.refl _ _) (it_list (fun H2 e2 => SqL.of (e2 _ _ f1)) f2) hT⟩
    · cases o with
      | lst xs =>
        cases e2
        obtain ⟨vs, f1, f2⟩ := h1
        exact .inl ⟨a, e1, ⟨_, SqL.of (A.co.was f1 h2).1⟩, k ds Γ _ Hf H A (Same.refl _) (Keep.refl _ _) (it_lk f1 h2 f2) hT⟩
      | dic _ => cases e2
      | ins _ _ => cases e2
  · rename_i ds e
    obtain ⟨v, hv, hb⟩ := A.slot i _ e
    refine ⟨v, hv, ?_⟩
    rcases hb with hb | ⟨a, o, e1, e2, h1, h2⟩
    · cases hb with
      | tup f1 f2 => exact .inr (.inl ⟨_, rfl, ⟨_, SqT.of (A.co.frz _ _ f1)⟩, k ds Γ _ Hf H A (Same.refl _) (Keep.refl _ _) (it_tuple (fun H2 e2 => SqT.of (e2 _ _ f1)) f2) hT⟩)
    · cases o <;> cases e2
  · exact si_seq (se_var i) y Hf aS Γ σ H Φ R A hT k
end
theorem i_seqV {X : Cx} {tg : Expr} {x : Str} {pos : Pos} (i : Nat) (hN : X.N[i]? = some x := by rfl) (hv : Vis X.env.scope x := by first | exact Or.inl rfl | exact Or.inr (Or.inl rfl) | exact Or.inr (Or.inr rfl)) (hd : (x == ("__debug__" : Str)) = false := by decide)
    (hcd : (x == ("__classdict__" : Str)) = false := by decide) : PDI X tg (.Name x pos) (iSeq X.K (tVar i)) (dISqV i) := ⟨pi_seq (pv i hN hv hd hcd), si_seqV i⟩

end
section
/-! DLI: in for lists, texts and dicts at once; short rules for what lies in two forms. -/
theorem hu64 {A : Around} {k : Nat} (hr : Room k A) : A.units + 64 < cLine := by have := hr.un; omega
def inXD (neg : Bool) (a b : D) (k : B → Prop) : Prop := match b with
  | .dic kvs => dinD neg a (.dic kvs) k
  | b => inD neg a b k
theorem op2_inX {K : PySem.W.Frag} {neg : Bool} : Op2 K (fun x y H Q => rInA K neg x y H Q ∨ rDin neg x y H Q) (inXD neg) := by
  intro y Hf aS Γ σ H x x' dx dy Φ Q A h1 h2 ho k
  unfold inXD at ho
  split at ho
  · exact .inr (op2_din y Hf aS Γ σ H x x' dx _ Φ Q A h1 h2 ho k)
  · exact .inl (op2_in y Hf aS Γ σ H x x' dx _ Φ Q A h1 h2 ho k)
theorem PDG.as {X : Cx} {e : Expr} {g g' : TG} {G : DG} {js : List Nat} (h : PDG X e g' G js) (e1 : g' = g) : PDG X e g G js := e1 ▸ h
section
variable {X : Cx} {ξ : WX} {n : Nat} {ks : List Str} {c : Str} {p pos : Pos} {e : Expr} {es : List Expr} {kws : List Keyword} {t tk : TA} {T U : DA}
theorem x_mkn {j kk kn : Nat} {dds : List D} {ms : List Bool} {m : MI} (F : Fk X.prog X.w X.K X.mg X.base j c n ks dds ms m) (hr : Room kk X.A) (hj : j + 1 ≤ kk) (tk' : L2N.Takes X ξ) (ha : PDMA X (e :: es) ms t T) (hk : PDK X kws tk U) (hkn : ks.length = kn := by rfl) (hg : Gl X c := by rfl)
    (hall : (backToKw pos (keywordEach kws X.env)).all (·.1.isSome) = true := by rfl) (hks : (backToKw pos (keywordEach kws X.env)).filterMap (·.1) = ks := by rfl) (hdb : (c == ("__debug__" : Str)) = false := by decide)
    (he : starEach (e :: es) X.env = (false, eval e X.env) :: starEach es X.env := by rfl) (hpl : ((backTo pos (starEach (e :: es) X.env)).any (·.1) || (backToKw pos (keywordEach kws X.env)).any (·.1.isNone)) = false := by rfl) :
    PDX X ξ (.Call (.Name c p) (e :: es) kws pos) (tMkS X.K c n ks.length (spN X.K X.mg c ms m) (fun vs zs => vs ++ dds.map scaV ++ zs) (WE ξ) t tk) (dMk c n kn dds m T U) := by
  subst hkn
  exact x_mk F hr hj tk' ha hk hg hall hks hdb he hpl
theorem o_mkn {j kk kn : Nat} {dds : List D} {ms : List Bool} {m : MI} (F : Fk X.prog X.w X.K X.mg X.base j c n ks dds ms m) (hr : Room kk X.A) (hj : j + 1 ≤ kk) (ha : PDMA X (e :: es) ms t T) (hk : PDK X kws tk U) (hkn : ks.length = kn := by rfl) (hg : Gl X c := by rfl)
    (hall : (backToKw pos (keywordEach kws X.env)).all (·.1.isSome) = true := by rfl) (hks : (backToKw pos (keywordEach kws X.env)).filterMap (·.1) = ks := by rfl) (hdb : (c == ("__debug__" : Str)) = false := by decide)
    (he : starEach (e :: es) X.env = (false, eval e X.env) :: starEach es X.env := by rfl) (hpl : ((backTo pos (starEach (e :: es) X.env)).any (·.1) || (backToKw pos (keywordEach kws X.env)).any (·.1.isNone)) = false := by rfl) :
    PDO X (.Call (.Name c p) (e :: es) kws pos) (tMkS X.K c n ks.length (spN X.K X.mg c ms m) (fun vs zs => vs ++ dds.map scaV ++ zs) (fun _ => E0) t tk) (dMkN c n kn dds m T U) := by
  subst hkn
  exact o_mk F hr hj ha hk hg hall hks hdb he hpl
end

end
section
/-! HD: the head's facts by one look of a Hook (defs, error classes, constants, free names). -/
def rowK (p : Str × Option Str) (x q : Str) (st : Stmt) (kw : List (Str × He.Dv)) : He.DefD := ⟨p, x, q, defArgs st, defBody st, defScope st, [], kw⟩
def rowG (p : Str × Option Str) (x q : Str) (st : Stmt) : He.DefD := rowK p x q st []
def rowD (x : Str) (st : Stmt) : He.DefD := rowG (x, none) x x st
theorem rowK_fun {K : PySem.W.Frag} {p : Str × Option Str} {x q : Str} {st : Stmt} {kw : List (Str × He.Dv)} {f : Addr} {fd : FuncData} (F : FunD K (rowK p x q st kw).name (rowK p x q st kw).qual (rowK p x q st kw).params (rowK p x q st kw).body (rowK p x q st kw).scope ((rowK p x q st kw).dvs K) ((rowK p x q st kw).kws K) f fd) : Fun K x q st f fd := by
  obtain ⟨oc, od, dV, kV, doc, pm, an, cdv, ct, osl, rfl, lk, hcd, hD, hK⟩ := F.ex
  rcases hD with ⟨_, rfl⟩ | ⟨e, _⟩
  · exact ⟨⟨oc, od, kV, doc, pm, an, cdv, ct, osl, rfl, lk, hcd⟩, F.kp⟩
  · exact absurd rfl e
/-! ### a class with its own __init__ -/
structure ClD where
  c : Str
  q : Str
  st : Stmt
def iAd (K : PySem.W.Frag) (c : Str) : Addr := He.ma K (He.ga K c) "__init__"
def iFd (K : PySem.W.Frag) (c : Str) : Option FuncData := match K.lookup (iAd K c) with
  | some ⟨_, _, .func fd, _⟩ => some fd
  | _ => none
def iCode (K : PySem.W.Frag) (c : Str) : Addr := match iFd K c with
  | some fd => (match fd.code with
    | .ref a => a
    | _ => 0)
  | none => 0
def iCell (K : PySem.W.Frag) (c : Str) : Addr := match iFd K c with
  | some fd => (match fd.closure with
    | (_, a) :: _ => a
    | [] => 0)
  | none => 0
abbrev InW : Type := Option (Str × Str × Arguments × FuncBody × Scope × Addr × List Str × Addr)
def inW (K : PySem.W.Frag) (c : Str) : InW := match iFd K c with
  | some fd => some (fd.name, fd.qualname, fd.params, fd.body, fd.scope, fd.globals, fd.closure.map (·.1), fd.builtins)
  | none => none
def ClD.val (d : ClD) : InW := some ("__init__", d.q, defArgs d.st, .stmts (defBody d.st), defScope d.st, mainGlobals, ["__class__"], builtinsNs)
def iPl (fd : FuncData) : Bool := (match fd.defaults with
  | .none => true
  | _ => false) && (match fd.code with
  | .ref _ => true
  | _ => false)
def ClD.ok (P : Program) (K : PySem.W.Frag) (d : ClD) : Bool :=
  He.eqO (PySem.W.nsIn K mainGlobals d.c) (some (some (.ref (He.ga K d.c)))) && (He.eqO (PySem.W.findIn K (.ref (He.ga K d.c)) "__init__") (some (some (.ref (iAd K d.c)))) && ((match iFd K d.c with
    | some fd => iPl fd
    | none => false) && (exB K (He.ga K d.c) (flN d.c) && iniB P K (iAd K d.c) (He.ga K d.c) (iCode K d.c) (iCell K d.c) d.q)))
structure ClOk (P : Program) (K : PySem.W.Frag) (d : ClD) : Prop where
  g : PySem.W.nsIn K mainGlobals d.c = some (some (.ref (He.ga K d.c)))
  i : PySem.W.findIn K (.ref (He.ga K d.c)) "__init__" = some (some (.ref (iAd K d.c)))
  l : ∃ (oc : Value) (od : Option Addr) (sl : Array (Option Value)) (kV doc pm : Value) (an : Option Addr) (ctv : Value), K.lookup (iAd K d.c) = some ⟨oc, od, .func (PySem.W.fnX "__init__" d.q (defArgs d.st) (defBody d.st) (defScope d.st) [(("__class__" : Str), iCell K d.c)] .none kV doc pm an (.ref (iCode K d.c)) ctv), sl⟩
  x : exB K (He.ga K d.c) (flN d.c) = true
  b : iniB P K (iAd K d.c) (He.ga K d.c) (iCode K d.c) (iCell K d.c) d.q = true
theorem ClD.get {P : Program} {K : PySem.W.Frag} {d : ClD} (e : inW K d.c = d.val) (h : d.ok P K = true) : ClOk P K d := by
  obtain ⟨h1, h⟩ := He.ba h
  obtain ⟨h2, h⟩ := He.ba h
  obtain ⟨h3, h⟩ := He.ba h
  obtain ⟨h4, h5⟩ := He.ba h
  refine ⟨He.eqO_ok h1, He.eqO_ok h2, ?_, h4, h5⟩
  clear h1 h2 h4 h5 h
  have hI : ∀ fd, iFd K d.c = some fd → ∃ oc od sl, K.lookup (iAd K d.c) = some ⟨oc, od, .func fd, sl⟩ := fun fd hf => by
    unfold iFd at hf
    split at hf
    · rename_i oc od fd' sl q
      cases hf
      exact ⟨oc, od, sl, q⟩
    · cases hf
  cases q : iFd K d.c with
  | none =>
    rw [q] at h3
    cases h3
  | some fd =>
    obtain ⟨oc, od, sl, lk⟩ := hI fd q
    have hcode : iCode K d.c = (match fd.code with
      | .ref a => a
      | _ => 0) := by unfold iCode; rw [q]
    have hcell : iCell K d.c = (match fd.closure with
      | (_, a) :: _ => a
      | [] => 0) := by unfold iCell; rw [q]
    rw [hcode, hcell, lk]
    have h3 : iPl fd = true := by rw [q] at h3; exact h3
    unfold inW at e
    rw [q] at e
    obtain ⟨n1, n2, n3, n4, n5, n6, n7, n8, n9, n10, n11, n12, n13, n14, n15⟩ := fd
    have e2 : (some (n1, n2, n3, n4, n5, n6, n7.map (·.1), n15) : InW) = (some (("__init__" : Str), d.q, defArgs d.st, FuncBody.stmts (defBody d.st), defScope d.st, mainGlobals, [("__class__" : Str)], builtinsNs) : InW) := e
    simp only [Option.some.injEq, Prod.mk.injEq] at e2
    obtain ⟨a1, a2, a3, a4, a5, a6, a7, a8⟩ := e2
    subst a1 a2 a3 a4 a5 a6 a8
    obtain ⟨h6, h7⟩ := He.ba h3
    obtain ⟨cc, rfl⟩ : ∃ cc, n7 = [(("__class__" : Str), cc)] := by
      match n7, a7 with
      | [(x, cc)], a7 =>
        have : x = "__class__" := by
          simpa using a7
        exact ⟨cc, by rw [this]⟩
    have hd : n8 = .none := by
      cases n8 with
      | none => rfl
      | _ => cases h6
    subst hd
    obtain ⟨ca, rfl⟩ : ∃ ca, n13 = .ref ca := by
      cases n13 with
      | ref a => exact ⟨a, rfl⟩
      | _ => cases h7
    exact ⟨oc, od, sl, n9, n10, n11, n12, n14, rfl⟩
/-! ### a property -/
structure PrD where
  c : Str
  m : Str
  q : Str
  st : Stmt
def pAd (K : PySem.W.Frag) (d : PrD) : Addr := He.ma K (He.ga K d.c) d.m
def pgA (K : PySem.W.Frag) (d : PrD) : Addr := match PySem.W.recIn K (pAd K d) "property" with
  | some (.ref g :: _) => g
  | _ => 0
def pgB (K : PySem.W.Frag) (d : PrD) : Bool := match PySem.W.recIn K (pAd K d) "property" with
  | some (.ref _ :: _) => true
  | _ => false
def prW (K : PySem.W.Frag) (d : PrD) : He.FnW := match K.lookup (pgA K d) with
  | some ⟨_, _, .func fd, _⟩ => some (fd.name, fd.qualname, fd.params, fd.body, fd.scope, fd.globals, fd.closure, fd.builtins)
  | _ => none
def PrD.val (d : PrD) : He.FnW := some (d.m, d.q, defArgs d.st, .stmts (defBody d.st), defScope d.st, mainGlobals, [], builtinsNs)
def PrD.ok (K : PySem.W.Frag) (d : PrD) : Bool := He.eqO (PySem.W.findIn K (.ref (He.ga K d.c)) d.m) (some (some (.ref (pAd K d)))) && (He.eqO (PySem.W.specialIn K (.ref (pAd K d)) "__get__") (some (some (.builtin "property.__get__"))) && (decide (PySem.W.takesIn K (.ref (pAd K d)) = some true) && (pgB K d && (PySem.W.keepIn K (.ref (pgA K d)) && (match K.lookup (pgA K d) with
  | some ⟨_, _, .func fd, _⟩ => PySem.W.codeIn K fd.code d.q && He.dflB K fd.defaults []
  | _ => false)))))
theorem PrD.get {K : PySem.W.Frag} {d : PrD} (e : prW K d = d.val) (h : d.ok K = true) : PropOf K (He.ga K d.c) d.m (pAd K d) (pgA K d) ∧ ∃ fd, Fun K d.m d.q d.st (pgA K d) fd := by
  obtain ⟨h1, h⟩ := He.ba h
  obtain ⟨h2, h⟩ := He.ba h
  obtain ⟨h3, h⟩ := He.ba h
  obtain ⟨h4, h⟩ := He.ba h
  obtain ⟨kp, c2⟩ := He.ba h
  refine ⟨⟨He.eqO_ok h1, He.eqO_ok h2, of_decide_eq_true h3, ?_⟩, ?_⟩
  · unfold pgB at h4
    unfold pgA
    split at h4
    · rename_i g rest q
      exact ⟨rest, by rw [q]⟩
    · cases h4
  · unfold prW at e
    cases q : K.lookup (pgA K d) with
    | none =>
      rw [q] at c2
      cases c2
    | some o =>
      obtain ⟨oc, od, dt, osl⟩ := o
      rw [q] at c2 e
      cases dt with
      | func fd =>
        obtain ⟨n1, n2, n3, n4, n5, n6, n7, n8, n9, n10, n11, n12, n13, n14, n15⟩ := fd
        have e2 : (some (n1, n2, n3, n4, n5, n6, n7, n15) : He.FnW) = some (d.m, d.q, defArgs d.st, .stmts (defBody d.st), defScope d.st, mainGlobals, [], builtinsNs) := e
        simp only [Option.some.injEq, Prod.mk.injEq] at e2
        obtain ⟨g1, g2, g3, g4, g5, g6, g7, g8⟩ := e2
        subst g1 g2 g3 g4 g5 g6 g7 g8
        have c3 : (PySem.W.codeIn K n13 d.q && He.dflB K n8 []) = true := c2
        obtain ⟨k1, k3⟩ := He.ba c3
        have hd : n8 = .none := by
          rcases He.dflB_ok k3 with ⟨_, z⟩ | ⟨z, _⟩
          · exact z
          · exact absurd rfl z
        subst hd
        exact ⟨_, ⟨⟨oc, od, n9, n10, n11, n12, n13, n14, osl, rfl, q, k1⟩, kp⟩⟩
      | _ => cases c2
/-! ### the classes of isinstance -/
def tysL : List Ty := [.int, .bool, .str, .lst, .tup, .dic]
def cyB (K : PySem.W.Frag) (cs : List Str) : Bool := (cs.all fun c => (He.Fa.glo c).ok K && ((He.Fa.cls c).ok K && (He.eqO (PySem.W.findIn K (.ref (He.ga K c)) "__class__") (some (some (.builtin "object.__class__"))) && (decide (PySem.W.mroIn K (He.ga K c) (.type "object") = some true)
    && ((bltN.all fun n => decide (PySem.W.kitOne K (.type n) (.ref (He.ga K c)) = some false)) && ((tysL.all fun T => decide (PySem.W.kitOne K (.ref (He.ga K c)) (.type T.nm) = some false)) && cs.all fun c' => decide (PySem.W.kitOne K (.ref (He.ga K c)) (.ref (He.ga K c')) = some (decide (c = c')))))))))
  && (cs.isEmpty || (He.eqO (PySem.W.specialIn K (.builtin "object.__class__") "__get__") (some (some (.builtin "getset_descriptor.__get__"))) && decide (PySem.W.takesIn K (.builtin "object.__class__") = some true)))
theorem cyB_ok {K : PySem.W.Frag} {cs : List Str} (h : cyB K cs = true) (hne : cs ≠ []) : Cy K cs := by
  obtain ⟨h1, h2⟩ := He.ba h
  have hc : ∀ c ∈ cs, (He.Fa.glo c).ok K = true ∧ (He.Fa.cls c).ok K = true ∧ PySem.W.findIn K (.ref (He.ga K c)) "__class__" = some (some (.builtin "object.__class__")) ∧ PySem.W.mroIn K (He.ga K c) (.type "object") = some true ∧
      (∀ n ∈ bltN, PySem.W.kitOne K (.type n) (.ref (He.ga K c)) = some false) ∧ (∀ T : Ty, PySem.W.kitOne K (.ref (He.ga K c)) (.type T.nm) = some false) ∧ ∀ c' ∈ cs, PySem.W.kitOne K (.ref (He.ga K c)) (.ref (He.ga K c')) = some (decide (c = c')) := fun c hc => by
    obtain ⟨a1, a⟩ := He.ba (List.all_eq_true.mp h1 c hc)
    obtain ⟨a2, a⟩ := He.ba a
    obtain ⟨a3, a⟩ := He.ba a
    obtain ⟨a4, a⟩ := He.ba a
    obtain ⟨a5, a⟩ := He.ba a
    obtain ⟨a6, a7⟩ := He.ba a
    refine ⟨a1, a2, He.eqO_ok a3, of_decide_eq_true a4, fun n hn => of_decide_eq_true (List.all_eq_true.mp a5 n hn), fun T => of_decide_eq_true (List.all_eq_true.mp a6 T ?_), fun c' hc' => of_decide_eq_true (List.all_eq_true.mp a7 c' hc')⟩
    cases T <;> simp [tysL]
  have h3 : (He.eqO (PySem.W.specialIn K (.builtin "object.__class__") "__get__") (some (some (.builtin "getset_descriptor.__get__"))) && decide (PySem.W.takesIn K (.builtin "object.__class__") = some true)) = true := by
    cases cs with
    | nil => exact absurd rfl hne
    | cons _ _ => exact h2
  obtain ⟨h4, h5⟩ := He.ba h3
  have ga : ∀ c ∈ cs, ∀ C, cAt K c C → C = He.ga K c := fun c hc' C g => by
    have g0 : cAt K c (He.ga K c) := He.eqO_ok (hc c hc').1
    exact g.uniq g0
  refine ⟨fun c h => ⟨He.ga K c, He.eqO_ok (hc c h).1, He.cls_ok (hc c h).2.1, (hc c h).2.2.1, (hc c h).2.2.2.1⟩, He.eqO_ok h4, of_decide_eq_true h5, fun c h C g n hn => ?_, fun c h C g T => ?_, fun c h c' h' C C' g g' => ?_⟩
  · rw [ga c h C g]
    exact (hc c h).2.2.2.2.1 n hn
  · rw [ga c h C g]
    exact (hc c h).2.2.2.2.2.1 T
  · rw [ga c h C g, ga c' h' C' g']
    exact (hc c h).2.2.2.2.2.2 c' h'
/-! ### the Hook -/
def tabK (K : PySem.W.Frag) (rc : List Str) : Tab := rc.map fun c => (c, He.ga K c)
/-- names that stand for objects, free names, constants, the classes that are tested and caught -/
structure Bl where
  gl : List Str
  fr : List Str
  nums : List (Str × Int)
  txts : List (Str × Str)
  rc : List Str
  own : List Str
  blt : List String
  cs : List Str
  fa : List He.Fa
  na : List (Str × List Str)
  cy : List Str
def Bl.ok (b : Bl) (K : PySem.W.Frag) : Bool :=
  (b.gl.all fun x => He.eqO (PySem.W.nsIn K mainGlobals x) (some (some (.ref (He.ga K x))))) && ((b.fr.all fun x => He.eqO (PySem.W.nsIn K mainGlobals x) (some none)) && ((b.nums.all fun p => (He.Fa.int p.1 p.2).ok K) && ((b.txts.all fun p => (He.Fa.str p.1 p.2).ok K)
    && ((b.own.all fun c => kitB K (tabK K b.rc) c (.ref (He.ga K c))) && ((b.blt.all fun c => kitB K (tabK K b.rc) c (.type c)) && ((b.cs.all fun c => exmB K (tabK K b.rc) c (He.ga K c)) && ((b.fa.all fun f => f.ok K) && ((b.na.all fun p => p.2.all fun f => (He.Fa.noat p.1 f).ok K) && cyB K b.cy))))))))
abbrev AlB : Type := Bool × List He.FnW × List InW × List He.FnW
structure Rows where
  fn : List He.DefD
  cl : List ClD
  pr : List PrD
def obsB (P : Program) (b : Bl) (r : Rows) (K : PySem.W.Frag) : AlB := (b.ok K && ((r.fn.all fun d => d.ok K) && ((r.cl.all fun d => d.ok P K) && r.pr.all fun d => d.ok K)), r.fn.map fun d => He.fnW K d.at_, r.cl.map fun d => inW K d.c, r.pr.map fun d => prW K d)
def valB (r : Rows) : AlB := (true, r.fn.map He.DefD.val, r.cl.map ClD.val, r.pr.map PrD.val)
def obsBG (n : Nat) (P : Program) (b : Bl) (r : Rows) (g : Addr → Option Obj) : AlB := obsB P b r (He.frG g (cStatics :: He.asD g n))
def hookB (n : Nat) (P : Program) (b : Bl) (r : Rows) : PySem.W.Hook where
  α := AlB
  obs := fun s => obsBG n P b r s.heap.get?
  val := fun _ => valB r
  says := fun _ h => ∃ K : PySem.W.Frag, K.In h ∧ obsB P b r K = valB r
  of := fun _ _ e => ⟨_, He.frG_in, e⟩
  keeps := fun _ _ _ ⟨K, hK, c⟩ k => ⟨K, PySem.W.Frag.In.keeps hK k, c⟩
noncomputable def obB (n : Nat) (P : Program) (b : Bl) (r : Rows) (s : PySem.W.SharedT) : AlB := obsBG n P b r (HandSHeadRun.getT s)
theorem obB_eq (n : Nat) (P : Program) (b : Bl) (r : Rows) (s : PySem.W.SharedT) : obB n P b r s = (hookB n P b r).obs s.abs := by
  have e : HandSHeadRun.getT s = s.abs.heap.get? := funext (HandSHeadRun.getT_eq s)
  unfold obB
  rw [e] <;> rfl
section
variable {P : Program} {b : Bl} {r : Rows} {K : PySem.W.Frag}
theorem oB1 (c : obsB P b r K = valB r) : b.ok K = true ∧ (r.fn.all fun d => d.ok K) = true ∧ (r.cl.all fun d => d.ok P K) = true ∧ (r.pr.all fun d => d.ok K) = true := by
  obtain ⟨h1, h2⟩ := He.ba (show (b.ok K && ((r.fn.all fun d => d.ok K) && ((r.cl.all fun d => d.ok P K) && r.pr.all fun d => d.ok K))) = true from congrArg (fun z : AlB => z.1) c)
  obtain ⟨h3, h4⟩ := He.ba h2
  exact ⟨h1, h3, He.ba h4⟩
theorem oBk (c : obsB P b r K = valB r) (i : Nat) {p : Str × Option Str} {x q : Str} {st : Stmt} {kw : List (Str × He.Dv)} (h : r.fn[i]? = some (rowK p x q st kw) := by rfl) : ∃ fd, FunD K x q (defArgs st) (defBody st) (defScope st) [] ((rowK p x q st kw).kws K) (He.fAd K p) fd ∧ Fun K x q st (He.fAd K p) fd := by
  have e : r.fn.map (fun d => He.fnW K d.at_) = r.fn.map He.DefD.val := congrArg (fun z : AlB => z.2.1) c
  have e2 : (r.fn.map fun d => He.fnW K d.at_)[i]? = (r.fn.map He.DefD.val)[i]? := by rw [e]
  rw [List.getElem?_map, List.getElem?_map, h] at e2
  obtain ⟨fd, F⟩ := He.DefD.funD (Option.some.inj e2) (List.all_eq_true.mp (oB1 c).2.1 _ (List.mem_of_getElem? h))
  exact ⟨fd, F, rowK_fun F⟩
theorem oBf (c : obsB P b r K = valB r) (i : Nat) {x : Str} {st : Stmt} (h : r.fn[i]? = some (rowD x st) := by rfl) : ∃ fd, Fun K x x st (He.ga K x) fd := by
  obtain ⟨fd, _, F⟩ := oBk c i h
  exact ⟨fd, F⟩
theorem oBm (c : obsB P b r K = valB r) (i : Nat) {p : Str × Option Str} {x q : Str} {st : Stmt} (h : r.fn[i]? = some (rowG p x q st) := by rfl) : ∃ fd, Fun K x q st (He.fAd K p) fd := by
  obtain ⟨fd, _, F⟩ := oBk c i h
  exact ⟨fd, F⟩
theorem oBc (c : obsB P b r K = valB r) (i : Nat) {d : ClD} (h : r.cl[i]? = some d := by rfl) : ClOk P K d := by
  have e : r.cl.map (fun d => inW K d.c) = r.cl.map ClD.val := congrArg (fun z : AlB => z.2.2.1) c
  have e2 : (r.cl.map fun d => inW K d.c)[i]? = (r.cl.map ClD.val)[i]? := by rw [e]
  rw [List.getElem?_map, List.getElem?_map, h] at e2
  exact ClD.get (Option.some.inj e2) (List.all_eq_true.mp (oB1 c).2.2.1 _ (List.mem_of_getElem? h))
theorem oBp (c : obsB P b r K = valB r) (i : Nat) {d : PrD} (h : r.pr[i]? = some d := by rfl) : PropOf K (He.ga K d.c) d.m (pAd K d) (pgA K d) ∧ ∃ fd, Fun K d.m d.q d.st (pgA K d) fd := by
  have e : r.pr.map (fun d => prW K d) = r.pr.map PrD.val := congrArg (fun z : AlB => z.2.2.2) c
  have e2 : (r.pr.map fun d => prW K d)[i]? = (r.pr.map PrD.val)[i]? := by rw [e]
  rw [List.getElem?_map, List.getElem?_map, h] at e2
  exact PrD.get (Option.some.inj e2) (List.all_eq_true.mp (oB1 c).2.2.2 _ (List.mem_of_getElem? h))
theorem oB7 (c : obsB P b r K = valB r) : (b.cs.all fun c => exmB K (tabK K b.rc) c (He.ga K c)) = true ∧ (b.fa.all fun f => f.ok K) = true ∧ (b.na.all fun p => p.2.all fun f => (He.Fa.noat p.1 f).ok K) = true ∧ cyB K b.cy = true := by
  obtain ⟨h1, h2⟩ := He.ba (He.ba (He.ba (He.ba (He.ba (He.ba (He.ba (oB1 c).1).2).2).2).2).2).2
  obtain ⟨h3, h4⟩ := He.ba h2
  exact ⟨h1, h3, He.ba h4⟩
theorem oBa (c : obsB P b r K = valB r) (i : Nat) {f : He.Fa} (h : b.fa[i]? = some f := by rfl) : f.ok K = true := List.all_eq_true.mp (oB7 c).2.1 _ (List.mem_of_getElem? h)
theorem oBn (c : obsB P b r K = valB r) (i : Nat) {x : Str} {fs : List Str} (h : b.na[i]? = some (x, fs) := by rfl) : ∀ f ∈ fs, NoAttr K (He.ga K x) f := fun f hf =>
  He.noat_ok (List.all_eq_true.mp (List.all_eq_true.mp (oB7 c).2.2.1 _ (List.mem_of_getElem? h)) f hf)
theorem oBy (c : obsB P b r K = valB r) (hne : b.cy ≠ []) : Cy K b.cy := cyB_ok (oB7 c).2.2.2 hne
theorem oBg (c : obsB P b r K = valB r) (i : Nat) {x : Str} (h : b.gl[i]? = some x := by rfl) : PySem.W.nsIn K mainGlobals x = some (some (.ref (He.ga K x))) :=
  He.eqO_ok (List.all_eq_true.mp (He.ba (oB1 c).1).1 _ (List.mem_of_getElem? h))
theorem oBz (c : obsB P b r K = valB r) (i : Nat) {x : Str} (h : b.fr[i]? = some x := by rfl) : PySem.W.nsIn K mainGlobals x = some none :=
  He.eqO_ok (List.all_eq_true.mp (He.ba (He.ba (oB1 c).1).2).1 _ (List.mem_of_getElem? h))
theorem oBi (c : obsB P b r K = valB r) (i : Nat) {x : Str} {v : Int} (h : b.nums[i]? = some (x, v) := by rfl) : (He.Fa.int x v).ok K = true :=
  List.all_eq_true.mp (He.ba (He.ba (He.ba (oB1 c).1).2).2).1 _ (List.mem_of_getElem? h)
theorem oBs (c : obsB P b r K = valB r) (i : Nat) {x v : Str} (h : b.txts[i]? = some (x, v) := by rfl) : (He.Fa.str x v).ok K = true :=
  List.all_eq_true.mp (He.ba (He.ba (He.ba (He.ba (oB1 c).1).2).2).2).1 _ (List.mem_of_getElem? h)
theorem oBo (c : obsB P b r K = valB r) (i : Nat) {x : Str} (h : b.own[i]? = some x := by rfl) : kitB K (tabK K b.rc) x (.ref (He.ga K x)) = true :=
  List.all_eq_true.mp (He.ba (He.ba (He.ba (He.ba (He.ba (oB1 c).1).2).2).2).2).1 _ (List.mem_of_getElem? h)
theorem oBb (c : obsB P b r K = valB r) (i : Nat) {x : String} (h : b.blt[i]? = some x := by rfl) : kitB K (tabK K b.rc) x (.type x) = true :=
  List.all_eq_true.mp (He.ba (He.ba (He.ba (He.ba (He.ba (He.ba (oB1 c).1).2).2).2).2).2).1 _ (List.mem_of_getElem? h)
theorem oBx (c : obsB P b r K = valB r) (i : Nat) {x : Str} (h : b.cs[i]? = some x := by rfl) : exmB K (tabK K b.rc) x (He.ga K x) = true :=
  List.all_eq_true.mp (oB7 c).1 _ (List.mem_of_getElem? h)
end
/-- C(e, .., k = v, ..), all parameters given -/
theorem kbn_all {K : PySem.W.Frag} {x q : Str} {st : Stmt} {f : Addr} {fd : FuncData} {ps ks : List Str} {n : Nat} (F : Fun K x q st f fd)
    (h : ∀ (kV doc pm : Value) (an : Option Addr) (cdv ct : Value) (us ws : List Value), us.length = n → ws.length = ks.length → bindArgs (PySem.W.fnOf x q (defArgs st) (defBody st) (defScope st) .none kV doc pm an cdv ct) ⟨us, ks.zip ws⟩ = pure (ps.zip (us ++ ws))) :
    ∃ g, KBn K fd ps n ks g (fun vs zs => vs ++ ([] : List D).map scaV ++ zs) := by
  obtain ⟨oc, od, kV, doc, pm, an, cdv, ct, osl, rfl, lk, hcd⟩ := F.ex
  refine ⟨fun us ws => us ++ ws, fun s us ws _ l1 l2 => .of_eq (h kV doc pm an cdv ct us ws l1 l2), fun {vs us zs ws} r1 r2 => ?_⟩
  show Vals (vs ++ [] ++ zs) (us ++ ws)
  rw [List.append_nil]
  exact r1.append r2
theorem law_binds {K : PySem.W.Frag} {x p : Str} {st : Stmt} {f : Addr} {fd : FuncData} (F : Fun K x x st f fd)
    (h : ∀ (kV doc pm : Value) (an : Option Addr) (cdv ct v : Value), bindArgs (PySem.W.fnOf x x (defArgs st) (defBody st) (defScope st) .none kV doc pm an cdv ct) ⟨[v], []⟩ = pure [(p, v)]) (s : Shared) (v : Value) : BindsTo s fd ⟨[v], []⟩ [(p, v)] := by
  obtain ⟨oc, od, kV, doc, pm, an, cdv, ct, osl, rfl, lk, hcd⟩ := F.ex
  exact .of_eq (h kV doc pm an cdv ct v)

end
def topS (i : Nat) : Stmt := PySem.Challenge.pw_tetherdeep_k09_texts_of_deeps.main.body.getD i (.Pass ⟨0, 0, 0, 0⟩)
abbrev sI_BadName : Stmt := inClass (topS 11) 0
abbrev sI_BadNumber : Stmt := inClass (topS 12) 0
abbrev sI_Unknown : Stmt := inClass (topS 13) 0
abbrev sI_Twice : Stmt := inClass (topS 14) 0
abbrev sI_SameEnds : Stmt := inClass (topS 15) 0
abbrev s_is_name : Stmt := topS 16
abbrev s_check_name : Stmt := topS 17
abbrev s_check_number : Stmt := topS 18
abbrev s_check_names : Stmt := topS 19
abbrev s_check_known : Stmt := topS 21
abbrev s_check_new : Stmt := topS 22
abbrev s_check_passage : Stmt := topS 23
abbrev s_check_delver : Stmt := topS 24
abbrev s_checked_passages : Stmt := topS 25
abbrev s_checked_delvers : Stmt := topS 26
abbrev s_passages_at : Stmt := topS 27
abbrev s_Deep_init : Stmt := inClass (topS 28) 0
abbrev s_Deep_rope : Stmt := inClass (topS 28) 1
abbrev s_Deep_chambers : Stmt := inClass (topS 28) 3
abbrev s_Deep_delvers : Stmt := inClass (topS 28) 5
abbrev s_Deep_home : Stmt := inClass (topS 28) 8
abbrev s_Deep_entries : Stmt := inClass (topS 28) 11
abbrev s_deep_text : Stmt := topS 30
abbrev s_law_mix : Stmt := topS 32
abbrev s_law_wide : Stmt := topS 33
abbrev s_law_store : Stmt := topS 34
abbrev s_law_take : Stmt := topS 35
abbrev s_law_some : Stmt := topS 36
abbrev s_law_pick : Stmt := topS 37
abbrev s_law_mixed : Stmt := topS 38
abbrev s_law_is_name : Stmt := topS 39
abbrev s_law_fresh : Stmt := topS 40
abbrev s_law_word : Stmt := topS 41
abbrev s_law_names : Stmt := topS 42
abbrev s_law_is_number : Stmt := topS 43
abbrev s_law_same : Stmt := topS 44
abbrev s_law_known : Stmt := topS 45
abbrev s_law_entries : Stmt := topS 46
abbrev s_law_same_deep : Stmt := topS 47
abbrev s_law_retold : Stmt := topS 48
abbrev s_law_deep_lines : Stmt := topS 49
abbrev s_law_make : Stmt := topS 50
abbrev s_law_is_deep : Stmt := topS 51
abbrev s_law_good_deep : Stmt := topS 52
abbrev s_law_read_lines : Stmt := topS 53
abbrev s_law_right : Stmt := topS 54
abbrev s_law : Stmt := topS 55
abbrev fl_Deep : List Str := ["chamber_names", "rope_length", "passage_ends", "passage_widths", "delver_homes", "chamber_exits"]
abbrev cyL : List Str := ["Deep"]
def fnL : List He.DefD := ([rowD "is_name" s_is_name, rowD "check_name" s_check_name, rowD "check_number" s_check_number, rowD "check_names" s_check_names, rowD "check_known" s_check_known, rowD "check_new" s_check_new, rowD "check_passage" s_check_passage, rowD "check_delver" s_check_delver, rowD "checked_passages" s_checked_passages, rowD "checked_delvers" s_checked_delvers, rowD "passages_at" s_passages_at, rowK ("Deep", some "__init__") "__init__" "Deep.__init__" s_Deep_init [("rope", .int 12)], rowG ("Deep", some "chambers") "chambers" "Deep.chambers" s_Deep_chambers, rowG ("Deep", some "delvers") "delvers" "Deep.delvers" s_Deep_delvers, rowG ("Deep", some "home") "home" "Deep.home" s_Deep_home, rowG ("Deep", some "entries") "entries" "Deep.entries" s_Deep_entries, rowD "deep_text" s_deep_text, rowD "_law_mix" s_law_mix, rowD "_law_wide" s_law_wide, rowD "_law_store" s_law_store, rowD "_law_take" s_law_take, rowD "_law_some" s_law_some, rowD "_law_pick" s_law_pick, rowD "_law_mixed" s_law_mixed, rowD "_law_is_name" s_law_is_name] : List (He.DefD)) ++ ([rowD "_law_fresh" s_law_fresh, rowD "_law_word" s_law_word, rowD "_law_names" s_law_names, rowD "_law_is_number" s_law_is_number, rowD "_law_same" s_law_same, rowD "_law_known" s_law_known, rowD "_law_entries" s_law_entries, rowD "_law_same_deep" s_law_same_deep, rowD "_law_retold" s_law_retold, rowD "_law_deep_lines" s_law_deep_lines, rowD "_law_make" s_law_make, rowD "_law_is_deep" s_law_is_deep, rowD "_law_good_deep" s_law_good_deep, rowD "_law_read_lines" s_law_read_lines, rowD "_law_right" s_law_right, rowD "law" s_law] : List (He.DefD))
def prL : List PrD := ([⟨"Deep", "rope", "Deep.rope", s_Deep_rope⟩] : List (PrD))
def faL : List He.Fa := ([.cls "Deep", .mkr "Deep", .meth "Deep" "chambers", .meth "Deep" "delvers", .meth "Deep" "home", .meth "Deep" "entries"] : List (He.Fa))
def naL : List (Str × List Str) := ([("Deep", fl_Deep)] : List (Str × List Str))
def cytL : List Str := cyL
def clL : List ClD := ([⟨"BadName", "BadName.__init__", sI_BadName⟩, ⟨"BadNumber", "BadNumber.__init__", sI_BadNumber⟩, ⟨"Unknown", "Unknown.__init__", sI_Unknown⟩, ⟨"Twice", "Twice.__init__", sI_Twice⟩, ⟨"SameEnds", "SameEnds.__init__", sI_SameEnds⟩] : List (ClD))
def rcL : List Str := (["BadName", "BadNumber", "Unknown", "Twice", "SameEnds"] : List (Str))
def blL : Bl := ⟨(["is_name", "check_name", "check_number", "check_names", "check_known", "check_new", "check_passage", "check_delver", "checked_passages", "checked_delvers", "passages_at", "deep_text", "_law_mix", "_law_wide", "_law_store", "_law_take", "_law_some", "_law_pick", "_law_mixed", "_law_is_name", "_law_fresh", "_law_word", "_law_names", "_law_is_number", "_law_same"] : List (Str)) ++ (["_law_known", "_law_entries", "_law_same_deep", "_law_retold", "_law_deep_lines", "_law_make", "_law_is_deep", "_law_good_deep", "_law_read_lines", "_law_right", "law", "BadName", "BadNumber", "Unknown", "Twice", "SameEnds", "Deep"] : List (Str)), (["len", "int", "str", "abs", "min", "max", "list", "tuple", "dict", "bool", "isinstance", "range", "sorted", "enumerate", "zip", "all", "any", "sum", "reversed", "set", "super"] : List (Str)), ([("CHAMBERS", 10), ("PASSAGES", 14), ("DELVERS", 6), ("WIDTH", 6), ("ROPE", 12), ("NAME_LENGTH", 12)] : List (Str × Int)), ([("LETTERS", "abcdefghijklmnopqrstuvwxyz"), ("DIGITS", "0123456789")] : List (Str × Str)), rcL, ([] : List (Str)), ([] : List (String)), ([] : List (Str)), faL, naL, cytL⟩
def rwL : Rows := ⟨fnL, clL, prL⟩
def looseL : List Str := (["_wall", "__name__", "CHAMBERS", "PASSAGES", "DELVERS", "WIDTH", "ROPE", "NAME_LENGTH", "LETTERS", "DIGITS", "TetherError", "BadName", "BadNumber", "Unknown", "Twice", "SameEnds", "is_name", "check_name", "check_number", "check_names", "check_known", "check_new", "check_passage", "check_delver", "checked_passages"] : List (Str)) ++ (["checked_delvers", "passages_at", "Deep", "deep_text", "_law_mix", "_law_wide", "_law_store", "_law_take", "_law_some", "_law_pick", "_law_mixed", "_law_is_name", "_law_fresh", "_law_word", "_law_names", "_law_is_number", "_law_same", "_law_known", "_law_entries", "_law_same_deep", "_law_retold", "_law_deep_lines", "_law_make", "_law_is_deep", "_law_good_deep"] : List (Str)) ++ (["_law_read_lines", "_law_right"] : List (Str))
abbrev viewL : Program := PySem.W.view (PySem.W.OpenLaw.row PySem.Challenge.rw_tetherdeep_k09_texts_of_deeps).prog [55]
abbrev hkL : PySem.W.Hook := hookB 5 PySem.Challenge.rw_tetherdeep_k09_texts_of_deeps.prog blL rwL
noncomputable abbrev obL : PySem.W.SharedT → AlB := obB 5 PySem.Challenge.rw_tetherdeep_k09_texts_of_deeps.prog blL rwL
theorem runL (w : World) : HandSHeadRun.RunEq (PySem.W.OpenLaw.row PySem.Challenge.rw_tetherdeep_k09_texts_of_deeps) viewL hkL obL 30000 looseL w := by
  intro os
  kernel_rfl
/-! DH: what the helpers of the laws' texts do, over data. -/
theorem cmr {i j : Int} (h : j.natAbs < 2 ^ 64) : CMulD i j := .inl (.inr ⟨by omega, by omega⟩)
theorem cml {i j : Int} (h : i.natAbs < 2 ^ 64) : CMulD i j := .inl (.inl ⟨by omega, by omega⟩)
theorem cdw {i j : Int} (h : 0 < j) (h2 : j.natAbs.log2 < 9000) : CDivW i j := ⟨h, h2⟩
theorem szl {n : Nat} (h : n ≤ 100000) : n ≤ sizeLine := Nat.le_trans h (by decide)
theorem szt {n : Nat} (h : n < 100000) : n < sizeLine := Nat.lt_of_lt_of_le h (by decide)
theorem forGo_ind {G : DG} {Tb : DS} {De : En} (P : List D → Ev → Prop) (hnil : ∀ Γ, P [] Γ → De.nx Γ)
    (hcons : ∀ d ds Γ (N : Ev → Prop), P (d :: ds) Γ → (∀ Γ', P ds Γ' → N Γ') → G d Γ fun Γ1 => Tb { nx := N, rt := De.rt, bk := De.nx, ct := N, ex := De.ex } Γ1) : ∀ ds Γ, P ds Γ → forGo G Tb De ds Γ
  | [], Γ, h => by
    rw [forGo_nil]
    exact hnil Γ h
  | d :: ds, Γ, h => by
    rw [forGo_cons]
    exact hcons d ds Γ _ h fun Γ' h' => forGo_ind P hnil hcons ds Γ' h'
theorem lcGo_ind {G : DG} {Tt : DT} {Te : DE} {sl0 : List (Option B)} {k : List D → Option Sto → Prop} (P : List D → List D → Option Sto → Prop) (hnil : ∀ acc S, P [] acc S → k acc S)
    (hcons : ∀ d ds acc S (N : List D → Option Sto → Prop), P (d :: ds) acc S → (∀ acc' S', P ds acc' S' → N acc' S') →
      G d ⟨sl0, S⟩ fun Γ2 => Tt Γ2 fun b Γ3 => (b = true → Te Γ3 fun e Γ4 => acc.length < sizeLine ∧ N (acc ++ [e]) Γ4.S) ∧ (b = false → N acc Γ3.S)) : ∀ ds acc S, P ds acc S → lcGo G Tt Te sl0 ds acc S k
  | [], acc, S, h => by
    rw [lcGo_nil]
    exact hnil acc S h
  | d :: ds, acc, S, h => by
    rw [lcGo_cons]
    exact hcons d ds acc S _ h fun acc' S' h' => lcGo_ind P hnil hcons ds acc' S' h'
theorem whGo_ind {C : DT} {Tb : DS} {De : En} (P : Nat → Ev → Prop)
    (hs : ∀ n Γ (N : Ev → Prop), P n Γ → (∀ m Γ', m < n → P m Γ' → N Γ') → C Γ fun b Γ1 => (b = true → Tb { nx := N, rt := De.rt, bk := De.nx, ct := N, ex := De.ex } Γ1) ∧ (b = false → De.nx Γ1)) (n : Nat) : ∀ j, n ≤ j → ∀ Γ, P n Γ → whGo C Tb De (j + 1) Γ := by
  induction n using Nat.strongRecOn with
  | ind n ih =>
    intro j hj Γ h
    rw [whGo_succ]
    refine hs n Γ _ h fun m Γ' hm h' => ?_
    cases j with
    | zero => omega
    | succ j => exact ih m hm j (by omega) Γ' h'

local macro_rules | `(tactic| walk_at "w") => `(tactic| (conv => whnf))
/-- go on: past the sides that are plain -/
local macro_rules | `(tactic| walk_at "g") => `(tactic| (repeat (first
  | (refine And.intro (cmr (by decide)) ?_; conv => whnf)
  | (refine And.intro (cdw (by decide) (by decide)) ?_; conv => whnf)
  | (refine And.intro (show CPow _ _ from ⟨by decide, by decide, by decide⟩) ?_; conv => whnf)
  | (refine And.intro (show (0 : Int) < _ by decide) ?_; conv => whnf)
  | (refine And.intro (show bnd _ from ⟨by decide, by decide⟩) ?_; conv => whnf)
  | (refine And.intro (show _ ≤ sizeLine from szl (Nat.le_of_ble_eq_true rfl)) ?_; conv => whnf)
  | (refine And.intro (show _ < sizeLine from szt (Nat.le_of_ble_eq_true rfl)) ?_; conv => whnf)
  | (refine And.intro (show D.plain _ = true from rfl) ?_; conv => whnf)
  | (refine And.intro (fun z => (Bool.false_ne_true z).elim) (fun _ => ?_); conv => whnf)
  | (refine And.intro (fun _ => ?_) (fun z => (Bool.false_ne_true z.symm).elim); conv => whnf))))

def m_law_mix : MP := fun ds k => ∃ n t, ds = [.int n, .int t] ∧ ∀ r : Int, 0 ≤ r → r < 2147483563 → k (.fro (.int r))
theorem len_law_mix : ∀ ds κ, m_law_mix ds κ → ds.length = 2 := by rintro _ _ ⟨n, t, rfl, _⟩; rfl
theorem mono_law_mix : ∀ ds k k', (∀ b, k b → k' b) → m_law_mix ds k → m_law_mix ds k' := fun _ _ _ f ⟨n, t, e, h⟩ => ⟨n, t, e, fun r a b => f _ (h r a b)⟩
def N_law_mix : List Str := ["_law_number", "_law_turn", "_law_once", "_law_twice", "_law_third"]
def T_law_mix_0_3 : DS :=
    (dRet (dOp modD (dFz (dCl intCD (dCons (dFz (dOp addD (dFz (dOp mulD (dVarQ 4) (dFz (dOp addD (dFz (dOp fdivD (dVarQ 4) (dC (.int 8)))) (dC (.int 3)))))) (dFz (dOp fdivD (dVarQ 3) (dC (.int 5)))))) dNil))) (dC (.int 2147483563))))
def T_law_mix_0_2 : DS :=
    dSeq (dSet 4 (dOp modD (dFz (dCl intCD (dCons (dFz (dOp addD (dFz (dOp addD (dFz (dOp mulD (dVarQ 3) (dC (.int 40692)))) (dFz (dOp fdivD (dVarQ 2) (dC (.int 3)))))) (dVarQ 1))) dNil))) (dC (.int 2147483579))))
    T_law_mix_0_3
def T_law_mix_0_1 : DS :=
    dSeq (dSet 3 (dOp modD (dFz (dCl intCD (dCons (dFz (dOp addD (dFz (dOp addD (dFz (dOp mulD (dVarQ 2) (dVarQ 2))) (dFz (dOp mulD (dVarQ 1) (dC (.int 16807)))))) (dC (.int 7)))) dNil))) (dC (.int 2147483629))))
    T_law_mix_0_2
def T_law_mix_0_0 : DS :=
    dSeq (dSet 2 (dOp modD (dFz (dCl intCD (dCons (dFz (dOp addD (dFz (dOp addD (dFz (dOp mulD (dVarQ 0) (dC (.int 48271)))) (dFz (dOp mulD (dVarQ 1) (dC (.int 69621)))))) (dC (.int 11)))) dNil))) (dC (.int 2147483647))))
    T_law_mix_0_1
abbrev T_law_mix : DS := T_law_mix_0_0
theorem rd_law_mix : ∀ ds κ, m_law_mix ds κ → T_law_mix ⟨fun _ => κ (.fro .non), rtP κ, fun _ => False, fun _ => False, fun _ _ => False⟩ ⟨startD N_law_mix ds, none⟩ := by
  intro ds κ h
  obtain ⟨n, t, rfl, h⟩ := h
  walk_at "w"
  walk_at "g"
  refine And.intro (cmr (by omega)) ?_
  walk_at "w"
  walk_at "g"
  refine And.intro (cmr (by omega)) ?_
  walk_at "w"
  walk_at "g"
  exact h _ (by omega) (by omega)
def m_law_wide : MP := fun ds k => ∃ n t m, ds = [.int n, .int t, .int m] ∧ 0 < m ∧ ∀ r : Int, 0 ≤ r → r < m → k (.fro (.int r))
theorem len_law_wide : ∀ ds κ, m_law_wide ds κ → ds.length = 3 := by rintro _ _ ⟨n, t, m, rfl, _⟩; rfl
theorem mono_law_wide : ∀ ds k k', (∀ b, k b → k' b) → m_law_wide ds k → m_law_wide ds k' := fun _ _ _ f ⟨n, t, m, e, h0, h⟩ => ⟨n, t, m, e, h0, fun r a b => f _ (h r a b)⟩
def N_law_wide : List Str := ["_law_number", "_law_turn", "_law_many", "_law_drawn", "_law_k"]
def T_law_wide_0_2 : DS :=
    (dRet (dOp modD (dFz (dCl intCD (dCons (dVarQ 3) dNil))) (dVarQ 2)))
def T_law_wide_2_0 : DS :=
    (dSet 3 (dOp addD (dFz (dOp mulD (dVarQ 3) (dFz (dOp powD (dC (.int 10)) (dC (.int 9)))))) (dFz (dCall m_law_mix [] (dCons (dFz (dOp addD (dFz (dOp addD (dVarQ 0) (dVarQ 4))) (dC (.int 1)))) (dCons (dFz (dOp addD (dFz (dOp mulD (dVarQ 1) (dC (.int 8)))) (dVarQ 4))) dNil))))))
def T_law_wide_1_0 : DS :=
    (dFor (dIR1 (dC (.int 8))) (dGN 4)
    T_law_wide_2_0)
def T_law_wide_0_1 : DS :=
    dSeq (dIf (dTest (dOp gtD (dVarQ 2) (dFz (dOp powD (dC (.int 10)) (dC (.int 9))))))
    T_law_wide_1_0
    dNext)
    T_law_wide_0_2
def T_law_wide_0_0 : DS :=
    dSeq (dSet 3 (dCall m_law_mix [] (dCons (dVar 0) (dCons (dVar 1) dNil))))
    T_law_wide_0_1
abbrev T_law_wide : DS := T_law_wide_0_0
theorem rd_law_wide : ∀ ds κ, m_law_wide ds κ → T_law_wide ⟨fun _ => κ (.fro .non), rtP κ, fun _ => False, fun _ => False, fun _ _ => False⟩ ⟨startD N_law_wide ds, none⟩ := by
  intro ds κ h
  obtain ⟨n, t, m, rfl, h0, h⟩ := h
  walk_at "w"
  refine ⟨_, _, rfl, fun r _ _ => ?_⟩
  walk_at "w"
  walk_at "g"
  have fin : ∀ (r : Int) (b : Option B), dRet (dOp modD (dFz (dCl intCD (dCons (dVarQ 3) dNil))) (dVarQ 2)) ⟨fun _ => κ (.fro .non), rtP κ, fun _ => False, fun _ => False, fun _ _ => False⟩ ⟨[some (.fro (.int n)), some (.fro (.int t)), some (.fro (.int m)), some (.fro (.int r)), b], none⟩ := by
    intro r b
    walk_at "w"
    refine And.intro h0 ?_
    walk_at "w"
    exact h _ (Int.emod_nonneg _ (by omega)) (Int.emod_lt_of_pos _ h0)
  refine ⟨fun _ => ?_, fun _ => fin _ _⟩
  walk_at "w"
  walk_at "g"
  refine forGo_ind (fun ds Γ => (∃ r b, Γ = ⟨[some (.fro (.int n)), some (.fro (.int t)), some (.fro (.int m)), some (.fro (.int r)), b], none⟩) ∧ ∀ d ∈ ds, ∃ i, d = .int i) ?_ ?_ _ _ ⟨⟨_, _, rfl⟩, ?_⟩
  · rintro Γ ⟨⟨r, b, rfl⟩, _⟩
    exact fin _ _
  · rintro d ds Γ N ⟨⟨r, b, rfl⟩, hd⟩ hN
    obtain ⟨i, rfl⟩ := hd d (List.mem_cons_self ..)
    walk_at "w"
    walk_at "g"
    refine ⟨_, _, rfl, fun r _ _ => ?_⟩
    walk_at "w"
    exact hN _ ⟨⟨_, _, rfl⟩, fun d hd' => hd d (List.mem_cons_of_mem _ hd')⟩
  · intro d hd
    obtain ⟨i, _, rfl⟩ := List.mem_map.mp hd
    exact ⟨_, rfl⟩

def En0 (κ : B → Prop) : En := ⟨fun _ => κ (.fro .non), rtP κ, fun _ => False, fun _ => False, fun _ _ => False⟩
def EnS (κ : B → Sto → Prop) : En := ⟨fun Γ => rtS κ (.fro .non) Γ.S, rtS κ, fun _ => False, fun _ => False, fun _ _ => False⟩
abbrev bi (i : Int) : Option B := some (.fro (.int i))
abbrev bs (s : Str) : Option B := some (.fro (.str s))
abbrev bl (ds : List D) : Option B := some (.fro (.lst ds))
abbrev bt (ds : List D) : Option B := some (.fro (.tup ds))
abbrev ol (ds : List D) : Option B := some (.own (.lst ds))
abbrev bS : Option B := some .sto
theorem slt {n : Nat} (h : n < 100000) : n < sizeLine := szt h
theorem sle {n : Nat} (h : n ≤ 100000) : n ≤ sizeLine := szl h

def m_law_store : MP := fun ds k => ∃ ns : List Int, ds = [.scr ns] ∧ ns.length ≤ 63 ∧ ∀ S : Sto, S.cells = ns → k (.own S.dat)
theorem len_law_store : ∀ ds κ, m_law_store ds κ → ds.length = 1 := by rintro _ _ ⟨n, rfl, _⟩; rfl
theorem mono_law_store : ∀ ds k k', (∀ b, k b → k' b) → m_law_store ds k → m_law_store ds k' := fun _ _ _ f ⟨n, e, h0, h⟩ => ⟨n, e, h0, fun S hS => f _ (h S hS)⟩
def N_law_store : List Str := ["_law_script", "_law_cells", "_law_blend", "_law_cell"]
def T_law_store_0_3 : DS :=
    (dRet (dLst (dCons (dVar 1) (dCons (dC (.int 0)) (dCons (dC (.int 0)) (dCons (dVar 2) (dCons (dC (.int 0)) dNil)))))))
def T_law_store_1_0 : DS :=
    (dSet 2 (dOp modD (dFz (dCl intCD (dCons (dFz (dOp addD (dFz (dOp addD (dFz (dOp mulD (dVarQ 2) (dC (.int 31)))) (dVarQ 3))) (dC (.int 5)))) dNil))) (dC (.int 2147483647))))
def T_law_store_0_2 : DS :=
    dSeq (dFor (dISq (dVar 1)) (dGN 3)
    T_law_store_1_0)
    T_law_store_0_3
def T_law_store_0_1 : DS :=
    dSeq (dSet 2 (dCl lenD (dCons (dVarQ 1) dNil)))
    T_law_store_0_2
def T_law_store_0_0 : DS :=
    dSeq (dSet 1 (dLc (dISq (dVar 0)) (dGN 3) dYes (dFz (dCl intCD (dCons (dVarQ 3) dNil))) [3]))
    T_law_store_0_1
abbrev T_law_store : DS := T_law_store_0_0
theorem rd_law_store : ∀ ds κ, m_law_store ds κ → T_law_store ⟨fun _ => κ (.fro .non), rtP κ, fun _ => False, fun _ => False, fun _ _ => False⟩ ⟨startD N_law_store ds, none⟩ := by
  intro ds κ h
  obtain ⟨ns, rfl, hl, h⟩ := h
  walk_at "w"
  refine lcGo_ind (fun ds acc S => S = none ∧ ∃ ms rs : List Int, acc = ms.map D.int ∧ ds = rs.map D.int ∧ ms ++ rs = ns) ?_ ?_ _ _ _ ⟨rfl, [], ns, rfl, rfl, rfl⟩
  · rintro acc S ⟨rfl, ms, rs, rfl, e, rfl⟩
    have e : rs = [] := List.map_eq_nil_iff.mp e.symm
    subst e
    rw [List.append_nil] at h
    walk_at "w"
    refine forGo_ind (fun ds Γ => (∃ bl b, Γ = ⟨[some (.fro (.scr (ms ++ []))), some (.fro (.lst (ms.map D.int))), bi bl, b], none⟩) ∧ ∀ d ∈ ds, ∃ i, d = .int i) ?_ ?_ _ _ ⟨⟨_, _, rfl⟩, fun d hd => ?_⟩
    · rintro Γ ⟨⟨bl, b, rfl⟩, _⟩
      walk_at "w"
      walk_at "g"
      exact h ⟨ms, 0, 0, bl, 0⟩ rfl
    · rintro d ds Γ N ⟨⟨bl, b, rfl⟩, hd⟩ hN
      obtain ⟨i, rfl⟩ := hd d (List.mem_cons_self ..)
      walk_at "w"
      walk_at "g"
      exact hN _ ⟨⟨_, _, rfl⟩, fun d hd' => hd d (List.mem_cons_of_mem _ hd')⟩
    · obtain ⟨i, _, rfl⟩ := List.mem_map.mp hd
      exact ⟨_, rfl⟩
  · rintro d ds acc S N ⟨rfl, ms, rs, rfl, e, rfl⟩ hN
    cases rs with
    | nil => cases e
    | cons r rs =>
      cases e
      walk_at "w"
      refine ⟨fun _ => ?_, fun z => nomatch z⟩
      walk_at "w"
      rw [List.length_append, List.length_cons] at hl
      refine ⟨slt (by rw [List.length_map]; omega), hN _ _ ⟨rfl, ms ++ [r], rs, by rw [List.map_append]; rfl, rfl, by simp⟩⟩

def m_law_take : MS := fun ds S k => ∃ n : Int, ds = [.int n] ∧ n.natAbs.log2 < 9000 ∧ ∀ (r : Int) S', 0 ≤ r → (1 ≤ n → r < n) → (n ≤ 1 → r = 0) → k (.fro (.int r)) S'
theorem len_law_take : ∀ ds S κ, m_law_take ds S κ → ds.length = 1 := by rintro _ _ _ ⟨n, rfl, _⟩; rfl
theorem mono_law_take : ∀ ds S k k', (∀ b S, k b S → k' b S) → m_law_take ds S k → m_law_take ds S k' := fun _ _ _ _ f ⟨n, e, h0, h⟩ => ⟨n, e, h0, fun r S' a b c => f _ _ (h r S' a b c)⟩
def N_law_take : List Str := ["_law_many", "_law_cell", "_law_drawn"]
def T_law_take_0_4 : DS :=
    (dRet (dCall m_law_wide [] (dCons (dStoG 0 3) (dCons (dStoG 0 4) (dCons (dVar 1) dNil)))))
def T_law_take_1_2 : DS :=
    (dRet (dMove 3))
def T_law_take_1_1 : DS :=
    dSeq (dStoP 0 2 (dFz (dOp fdivD (dStoG 0 2) (dVarQ 1))))
    T_law_take_1_2
def T_law_take_1_0 : DS :=
    dSeq (dSet 3 (dOp modD (dFz (dCl intCD (dCons (dStoG 0 2) dNil))) (dVarQ 1)))
    T_law_take_1_1
def T_law_take_0_3 : DS :=
    dSeq (dIf (dTest (dOp gtD (dStoG 0 2) (dC (.int 0))))
    T_law_take_1_0
    dNext)
    T_law_take_0_4
def T_law_take_2_3 : DS :=
    (dStoP 0 2 (dFz (dCl (int1D absI) (dCons (dVarQ 2) dNil))))
def T_law_take_3_0 : DS :=
    (dRet (dCall m_law_wide [] (dCons (dFz (dOp modD (dFz (dCl intCD (dCons (dVarQ 2) dNil))) (dC (.int 2147483647)))) (dCons (dStoG 0 4) (dCons (dVar 1) dNil)))))
def T_law_take_2_2 : DS :=
    dSeq (dIf (dTest (dOp ltD (dFz (dCl (int1D absI) (dCons (dVarQ 2) dNil))) (dFz (dOp powD (dC (.int 10)) (dC (.int 18))))))
    T_law_take_3_0
    dNext)
    T_law_take_2_3
def T_law_take_2_1 : DS :=
    dSeq (dStoP 0 1 (dFz (dOp addD (dStoG 0 1) (dC (.int 1)))))
    T_law_take_2_2
def T_law_take_2_0 : DS :=
    dSeq (dSet 2 (dCl intCD (dCons (dFz (dOp ixD (dStoG 0 0) (dStoG 0 1))) dNil)))
    T_law_take_2_1
def T_law_take_0_2 : DS :=
    dSeq (dIf (dAnd (dTest (dOp (eqD false) (dStoG 0 2) (dC (.int 0)))) (dTest (dOp ltD (dStoG 0 1) (dFz (dCl lenD (dCons (dStoG 0 0) dNil))))))
    T_law_take_2_0
    dNext)
    T_law_take_0_3
def T_law_take_0_1 : DS :=
    dSeq (dStoP 0 4 (dFz (dOp addD (dStoG 0 4) (dC (.int 1)))))
    T_law_take_0_2
def T_law_take_4_0 : DS :=
    (dRet (dUp (dC (.int 0))))
def T_law_take_0_0 : DS :=
    dSeq (dIf (dTest (dOp ltD (dVarQ 1) (dC (.int 2))))
    T_law_take_4_0
    dNext)
    T_law_take_0_1
abbrev T_law_take : DS := T_law_take_0_0
theorem rd_law_take : ∀ ds S κ, m_law_take ds S κ → T_law_take ⟨fun Γ => rtS κ (.fro .non) Γ.S, rtS κ, fun _ => False, fun _ => False, fun _ _ => False⟩ ⟨some .sto :: startD N_law_take ds, some S⟩ := by
  intro ds S κ h
  obtain ⟨n, rfl, hn, h⟩ := h
  walk_at "w"
  refine ⟨fun h1 => ?_, fun h1 => ?_⟩
  · have h1 := of_decide_eq_true h1
    walk_at "w"
    exact h _ _ (Int.le_refl _) (by omega) (fun _ => rfl)
  have h1 := of_decide_eq_false h1
  walk_at "w"
  -- behind the cells
  have fin : ∀ (S : Sto) (b c : Option B), T_law_take_0_3 (EnS κ) ⟨[some .sto, bi n, b, c], some S⟩ := by
    intro S b c
    walk_at "w"
    refine ⟨fun h2 => ?_, fun h2 => ?_⟩
    · walk_at "w"
      refine And.intro (show 0 < n by omega) ?_
      walk_at "w"
      refine And.intro (cdw (by omega) hn) ?_
      walk_at "w"
      exact h _ _ (Int.emod_nonneg _ (by omega)) (fun _ => Int.emod_lt_of_pos _ (by omega)) (by omega)
    · walk_at "w"
      refine ⟨_, _, _, rfl, (by omega), fun r h3 h4 => ?_⟩
      walk_at "w"
      exact h _ _ h3 (fun _ => h4) (by omega)
  refine ⟨fun h2 => ?_, fun h2 => ?_⟩
  · walk_at "w"
    refine ⟨fun h3 => ?_, fun h3 => fin _ _ _⟩
    have h3 : (S.at_ : Int) < ((S.cells.map D.int).length : Int) := of_decide_eq_true h3
    rw [List.length_map] at h3
    have hi : S.at_ < S.cells.length := by omega
    walk_at "w"
    refine ⟨.int S.cells[S.at_], ?_, ?_⟩
    · rw [show ((S.at_ : Nat) : Int) = ((S.at_ : Nat) : Int) from rfl]
      refine atI_nat ?_
      rw [List.getElem?_map, List.getElem?_eq_getElem hi]
      rfl
    walk_at "w"
    refine ⟨S.at_ + 1, (by show (S.at_ : Int) + 1 = ((S.at_ + 1 : Nat) : Int); omega), ?_⟩
    walk_at "w"
    walk_at "g"
    refine ⟨fun h4 => ?_, fun h4 => ?_⟩
    · walk_at "w"
      walk_at "g"
      refine ⟨_, _, _, rfl, (by omega), fun r h5 h6 => ?_⟩
      walk_at "w"
      exact h _ _ h5 (fun _ => h6) (by omega)
    · walk_at "w"
      exact fin _ _ _
  · walk_at "w"
    walk_at "g"
    exact fin _ _ _

/-! ### texts -/
theorem str_app (x y : Str) : (x ++ y).cps.toList = x.cps.toList ++ y.cps.toList := TL.tl_append x y
theorem str_len (x : Str) : x.length = x.cps.toList.length := TL.len_tl x
theorem str_ext {x y : Str} (h : x.cps.toList = y.cps.toList) : x = y := TL.ext_tl h
theorem fold_app {α : Type} : ∀ (l : List (Array α)) (acc : Array α), (l.foldl (· ++ ·) acc).toList = acc.toList ++ (l.map Array.toList).flatten
  | [], acc => by simp
  | a :: l, acc => by rw [List.foldl_cons, fold_app l, Array.toList_append, List.map_cons, List.flatten_cons, List.append_assoc]
theorem mul_list (x : Str) {n : Int} (h : 1 ≤ n) : (Txt.mul x n).cps.toList = (List.replicate n.toNat x.cps.toList).flatten := by
  unfold Txt.mul
  rw [if_neg (by omega)]
  by_cases c : (n == 1 || x.length == 0) = true
  · rw [if_pos c]
    rw [Bool.or_eq_true] at c
    rcases c with c | c
    · have e : n = 1 := eq_of_beq c
      subst e
      show _ = ([x.cps.toList] : List (List Nat)).flatten
      rw [List.flatten_cons, List.flatten_nil, List.append_nil]
    · have e : x.length = 0 := eq_of_beq c
      rw [str_len] at e
      have e2 : x.cps.toList = [] := List.length_eq_zero_iff.mp e
      rw [e2]
      exact (List.flatten_eq_nil_iff.mpr fun l hl => (List.mem_replicate.mp hl).2).symm
  · rw [if_neg c, fold_app, List.map_replicate]
    rfl
theorem mulOk {s : Str} {n : Int} (h : s.length ≤ 1000) (h1 : 0 ≤ n) (h2 : n ≤ 1000) : MulOk s n := by
  refine ⟨?_, fun _ _ => ?_, fun _ _ => ?_⟩
  · rw [Bool.or_eq_false_iff]
    exact ⟨decide_eq_false (by omega), decide_eq_false (by omega)⟩
  · have h3 : (1000 : Int) ≤ (2 ^ 63 - 1) / n := by
      refine (Int.le_ediv_iff_mul_le (by omega)).mpr ?_
      omega
    omega
  · unfold Builtin.Str.tooLong
    refine decide_eq_false ?_
    have h3 : s.length * n.toNat ≤ 1000 * 1000 := Nat.mul_le_mul h (by omega)
    rw [sizeLine_eq]
    omega
def isLo (c : Nat) : Bool := decide (97 ≤ c) && decide (c ≤ 122)
def isSg (c : Nat) : Bool := isLo c || (decide (48 ≤ c) && decide (c ≤ 57))
def IsNm (w : Str) : Prop := ∃ c l, w.cps.toList = c :: l ∧ isLo c = true ∧ l.length ≤ 11 ∧ ∀ x ∈ l, isSg x = true
def IsTx (w : Str) : Prop := ∀ c ∈ w.cps.toList, 32 ≤ c ∧ c ≤ 126
theorem IsNm.len {w : Str} (h : IsNm w) : 1 ≤ w.length ∧ w.length ≤ 12 := by
  obtain ⟨c, l, e, _, h, _⟩ := h
  rw [str_len, e, List.length_cons]
  omega
theorem isSg_tx {c : Nat} (h : isSg c = true) : 32 ≤ c ∧ c ≤ 126 := by
  simp [isSg, isLo] at h
  omega
theorem IsNm.tx {w : Str} (h : IsNm w) : IsTx w := by
  obtain ⟨c, l, e, h1, _, h2⟩ := h
  intro x hx
  rw [e] at hx
  rcases List.mem_cons.mp hx with rfl | hx
  · exact isSg_tx (by rw [isSg, h1]; rfl)
  · exact isSg_tx (h2 x hx)
theorem IsTx.ok {w : Str} (h : IsTx w) : PyData.strOk w = true := by
  unfold PyData.strOk
  rw [← Array.all_toList, List.all_eq_true]
  intro c hc
  have := h c hc
  exact decide_eq_true (by omega)
theorem cut_mem {α : Type} {xs : List α} {lo hi : Option Int} {x : α} (h : x ∈ cutD xs lo hi) : x ∈ xs := List.mem_of_mem_drop (List.mem_of_mem_take h)
theorem cut_len {α : Type} (xs : List α) (lo hi : Option Int) : (cutD xs lo hi).length ≤ xs.length := by
  unfold cutD
  rw [List.length_take, List.length_drop]
  omega
theorem cut_to {α : Type} (xs : List α) (k : Nat) : cutD xs none (some (k : Int)) = xs.take k := by
  unfold cutD
  rw [HT.sIx_none, HT.sIx_nat, List.drop_zero, Nat.sub_zero]
  by_cases h : k ≤ xs.length
  · rw [Nat.min_eq_left h]
  · rw [Nat.min_eq_right (by omega), List.take_length, List.take_of_length_le (by omega)]
theorem cut_from {α : Type} (xs : List α) (k : Nat) : cutD xs (some (k : Int)) none = xs.drop k := by
  unfold cutD
  rw [HT.sIx_none, HT.sIx_nat]
  by_cases h : k ≤ xs.length
  · rw [Nat.min_eq_left h]
    exact List.take_of_length_le (by rw [List.length_drop]; omega)
  · rw [Nat.min_eq_right (by omega), Nat.sub_self, List.take_zero, List.drop_eq_nil_iff.mpr (by omega)]
theorem cutS_list (z : Str) (lo hi : Option Int) : (cutS z lo hi).cps.toList = cutD z.cps.toList lo hi := by
  unfold cutS cutD
  rw [← str_len]

def m_law_some : MS := fun ds S k => ∃ lo hi : Int, ds = [.int lo, .int hi] ∧ (hi - lo + 1).natAbs.log2 < 9000 ∧ ∀ (r : Int) S', (hi ≤ lo → r = lo) → (lo ≤ hi → lo ≤ r ∧ r ≤ hi) → k (.fro (.int r)) S'
theorem len_law_some : ∀ ds S κ, m_law_some ds S κ → ds.length = 2 := by rintro _ _ _ ⟨n, m, rfl, _⟩; rfl
theorem mono_law_some : ∀ ds S k k', (∀ b S, k b S → k' b S) → m_law_some ds S k → m_law_some ds S k' := fun _ _ _ _ f ⟨n, m, e, h0, h⟩ => ⟨n, m, e, h0, fun r S' a b => f _ _ (h r S' a b)⟩
def N_law_some : List Str := ["_law_low", "_law_high", "_law_edge"]
def T_law_some_0_3 : DS :=
    (dRet (dOp addD (dVarQ 1) (dFz (dCallS m_law_take 0 (dCons (dFz (dOp addD (dFz (dOp subD (dVarQ 2) (dVarQ 1))) (dC (.int 1)))) dNil)))))
def T_law_some_1_0 : DS :=
    (dRet (dOp ixD (dFz (dLst (dCons (dVar 1) (dCons (dVar 2) (dCons (dFz (dOp addD (dVarQ 1) (dC (.int 1)))) (dCons (dFz (dOp subD (dVarQ 2) (dC (.int 1)))) dNil)))))) (dVarQ 3)))
def T_law_some_0_2 : DS :=
    dSeq (dIf (dTest (dOp ltD (dVarQ 3) (dC (.int 4))))
    T_law_some_1_0
    dNext)
    T_law_some_0_3
def T_law_some_0_1 : DS :=
    dSeq (dSet 3 (dCallS m_law_take 0 (dCons (dC (.int 12)) dNil)))
    T_law_some_0_2
def T_law_some_2_0 : DS :=
    (dRet (dMove 1))
def T_law_some_0_0 : DS :=
    dSeq (dIf (dTest (dOp leD (dVarQ 2) (dVarQ 1)))
    T_law_some_2_0
    dNext)
    T_law_some_0_1
abbrev T_law_some : DS := T_law_some_0_0
theorem rd_law_some : ∀ ds S κ, m_law_some ds S κ → T_law_some ⟨fun Γ => rtS κ (.fro .non) Γ.S, rtS κ, fun _ => False, fun _ => False, fun _ _ => False⟩ ⟨some .sto :: startD N_law_some ds, some S⟩ := by
  intro ds S κ h
  obtain ⟨lo, hi, rfl, hn, h⟩ := h
  walk_at "w"
  refine ⟨fun h1 => ?_, fun h1 => ?_⟩
  · have h1 := of_decide_eq_true h1
    walk_at "w"
    exact h _ _ (fun _ => rfl) (fun _ => by omega)
  have h1 := of_decide_eq_false h1
  walk_at "w"
  refine ⟨_, rfl, by decide, fun r S1 r1 r2 r3 => ?_⟩
  have r2 := r2 (by omega)
  walk_at "w"
  refine ⟨fun h2 => ?_, fun h2 => ?_⟩
  · have h2 := of_decide_eq_true h2
    walk_at "w"
    walk_at "g"
    have h3 : r = 0 ∨ r = 1 ∨ r = 2 ∨ r = 3 := by omega
    rcases h3 with rfl | rfl | rfl | rfl
    · exact ⟨_, rfl, h _ _ (fun _ => rfl) (fun _ => by omega)⟩
    · exact ⟨_, rfl, h _ _ (fun _ => by omega) (fun _ => by omega)⟩
    · exact ⟨_, rfl, h _ _ (fun _ => by omega) (fun _ => by omega)⟩
    · exact ⟨_, rfl, h _ _ (fun _ => by omega) (fun _ => by omega)⟩
  · walk_at "w"
    refine ⟨_, rfl, hn, fun r S1 r1 r2 r3 => ?_⟩
    have r2 := r2 (by omega)
    walk_at "w"
    exact h _ _ (fun _ => by omega) (fun _ => by omega)

def m_law_pick : MS := fun ds S k => (∃ xs, ds = [.lst xs] ∧ xs ≠ [] ∧ xs.length ≤ 1000 ∧ ∀ d S', d ∈ xs → k (.fro d) S') ∨
  ∃ s : Str, ds = [.str s] ∧ s.cps.toList ≠ [] ∧ s.length ≤ 1000 ∧ ∀ c S', c ∈ s.cps.toList → k (.fro (.str ⟨#[c]⟩)) S'
theorem len_law_pick : ∀ ds S κ, m_law_pick ds S κ → ds.length = 1 := by rintro _ _ _ (⟨n, rfl, _⟩ | ⟨n, rfl, _⟩) <;> rfl
theorem mono_law_pick : ∀ ds S k k', (∀ b S, k b S → k' b S) → m_law_pick ds S k → m_law_pick ds S k' := by
  rintro _ _ _ _ f (⟨xs, e, h0, h1, h⟩ | ⟨xs, e, h0, h1, h⟩)
  · exact .inl ⟨xs, e, h0, h1, fun d S' hd => f _ _ (h d S' hd)⟩
  · exact .inr ⟨xs, e, h0, h1, fun d S' hd => f _ _ (h d S' hd)⟩
theorem log9 {n : Nat} (h : n ≤ 100000) : n.log2 < 9000 := by
  by_cases h0 : n = 0
  · subst h0; decide
  · have h1 : n.log2 < 17 := (Nat.log2_lt h0).mpr (by omega)
    omega
def N_law_pick : List Str := ["_law_row"]
def T_law_pick_0_0 : DS :=
    (dRet (dOp ixD (dVarQ 1) (dFz (dCallS m_law_take 0 (dCons (dFz (dCl lenD (dCons (dVarQ 1) dNil))) dNil)))))
abbrev T_law_pick : DS := T_law_pick_0_0
theorem rd_law_pick : ∀ ds S κ, m_law_pick ds S κ → T_law_pick ⟨fun Γ => rtS κ (.fro .non) Γ.S, rtS κ, fun _ => False, fun _ => False, fun _ _ => False⟩ ⟨some .sto :: startD N_law_pick ds, some S⟩ := by
  rintro ds S κ (⟨xs, rfl, h0, h1, h⟩ | ⟨s, rfl, h0, h1, h⟩)
  · have hp : 0 < xs.length := List.length_pos_iff.mpr h0
    walk_at "w"
    refine ⟨_, rfl, log9 (by omega), fun r S1 r1 r2 r3 => ?_⟩
    have r2 := r2 (by omega)
    obtain ⟨j, rfl⟩ : ∃ j : Nat, r = j := ⟨r.toNat, by omega⟩
    have hj : j < xs.length := by omega
    walk_at "w"
    exact ⟨xs[j], atI_nat (List.getElem?_eq_getElem hj), h _ _ (List.getElem_mem hj)⟩
  · have hp : 0 < s.cps.toList.length := List.length_pos_iff.mpr h0
    have hl := str_len s
    walk_at "w"
    refine And.intro (sle (by omega)) ?_
    walk_at "w"
    refine ⟨_, rfl, log9 (by omega), fun r S1 r1 r2 r3 => ?_⟩
    have r2 := r2 (by omega)
    obtain ⟨j, rfl⟩ : ∃ j : Nat, r = j := ⟨r.toNat, by omega⟩
    have hj : j < s.cps.toList.length := by omega
    walk_at "w"
    refine And.intro (sle (by omega)) ?_
    exact ⟨s.cps.toList[j], atI_nat (List.getElem?_eq_getElem hj), h _ _ (List.getElem_mem hj)⟩

/-! ### loops by the turn's number -/
theorem forL {G : DG} {Tb : DS} {De : En} (all : List D) (P : Nat → Ev → Prop) (hend : ∀ Γ, P all.length Γ → De.nx Γ)
    (hs : ∀ (i : Nat) d Γ (N : Ev → Prop), all[i]? = some d → P i Γ → (∀ Γ', P (i + 1) Γ' → N Γ') → G d Γ fun Γ1 => Tb { nx := N, rt := De.rt, bk := De.nx, ct := N, ex := De.ex } Γ1) (Γ : Ev) (h0 : P 0 Γ) : forGo G Tb De all Γ := by
  refine forGo_ind (fun ds Γ => ∃ i, ds = all.drop i ∧ i ≤ all.length ∧ P i Γ) ?_ ?_ all Γ ⟨0, rfl, Nat.zero_le _, h0⟩
  · rintro Γ ⟨i, e, hi, hp⟩
    have h1 := List.drop_eq_nil_iff.mp e.symm
    have h2 : i = all.length := by omega
    subst h2
    exact hend Γ hp
  · rintro d ds Γ N ⟨i, e, hi, hp⟩ hN
    have hlt : i < all.length := by
      by_cases h : i < all.length
      · exact h
      · rw [List.drop_eq_nil_iff.mpr (by omega)] at e
        cases e
    rw [List.drop_eq_getElem_cons hlt] at e
    obtain ⟨e1, e2⟩ := List.cons.inj e
    exact hs i d Γ N (by rw [e1]; exact List.getElem?_eq_getElem hlt) hp fun Γ' h' => hN Γ' ⟨i + 1, e2, hlt, h'⟩
theorem rngD_len (lo : Int) (n : Nat) : (rngD lo n).length = n := by unfold rngD; rw [List.length_map, List.length_range]
theorem rngD_get {lo : Int} {n i : Nat} {d : D} (h : (rngD lo n)[i]? = some d) : i < n ∧ d = .int (lo + (i : Nat)) := by
  have hi := (List.getElem?_eq_some_iff.mp h).1
  rw [rngD_len] at hi
  unfold rngD at h
  rw [List.getElem?_map, List.getElem?_range hi] at h
  exact ⟨hi, (Option.some.inj h).symm⟩
theorem forR {G : DG} {Tb : DS} {De : En} {lo : Int} {n : Nat} (P : Nat → Ev → Prop) (hend : ∀ Γ, P n Γ → De.nx Γ)
    (hs : ∀ (i : Nat) Γ (N : Ev → Prop), i < n → P i Γ → (∀ Γ', P (i + 1) Γ' → N Γ') → G (.int (lo + (i : Nat))) Γ fun Γ1 => Tb { nx := N, rt := De.rt, bk := De.nx, ct := N, ex := De.ex } Γ1) (Γ : Ev) (h0 : P 0 Γ) : forGo G Tb De (rngD lo n) Γ := by
  refine forL _ P (by rw [rngD_len]; exact hend) (fun i d Γ N hd hp hN => ?_) Γ h0
  obtain ⟨hi, rfl⟩ := rngD_get hd
  exact hs i Γ N hi hp hN
theorem lcL {G : DG} {Tt : DT} {Te : DE} {sl0 : List (Option B)} {k : List D → Option Sto → Prop} (all : List D) (P : Nat → List D → Option Sto → Prop) (hend : ∀ acc S, P all.length acc S → k acc S)
    (hs : ∀ (i : Nat) d acc S (N : List D → Option Sto → Prop), all[i]? = some d → P i acc S → (∀ acc' S', P (i + 1) acc' S' → N acc' S') →
      G d ⟨sl0, S⟩ fun Γ2 => Tt Γ2 fun b Γ3 => (b = true → Te Γ3 fun e Γ4 => acc.length < sizeLine ∧ N (acc ++ [e]) Γ4.S) ∧ (b = false → N acc Γ3.S)) (S : Option Sto) (h0 : P 0 [] S) : lcGo G Tt Te sl0 all [] S k := by
  refine lcGo_ind (fun ds acc S => ∃ i, ds = all.drop i ∧ i ≤ all.length ∧ P i acc S) ?_ ?_ all [] S ⟨0, rfl, Nat.zero_le _, h0⟩
  · rintro acc S ⟨i, e, hi, hp⟩
    have h1 := List.drop_eq_nil_iff.mp e.symm
    have h2 : i = all.length := by omega
    subst h2
    exact hend acc S hp
  · rintro d ds acc S N ⟨i, e, hi, hp⟩ hN
    have hlt : i < all.length := by
      by_cases h : i < all.length
      · exact h
      · rw [List.drop_eq_nil_iff.mpr (by omega)] at e
        cases e
    rw [List.drop_eq_getElem_cons hlt] at e
    obtain ⟨e1, e2⟩ := List.cons.inj e
    exact hs i d acc S N (by rw [e1]; exact List.getElem?_eq_getElem hlt) hp fun acc' S' h' => hN acc' S' ⟨i + 1, e2, hlt, h'⟩
theorem lcR {G : DG} {Tt : DT} {Te : DE} {sl0 : List (Option B)} {k : List D → Option Sto → Prop} {lo : Int} {n : Nat} (P : Nat → List D → Option Sto → Prop) (hend : ∀ acc S, P n acc S → k acc S)
    (hs : ∀ (i : Nat) acc S (N : List D → Option Sto → Prop), i < n → P i acc S → (∀ acc' S', P (i + 1) acc' S' → N acc' S') →
      G (.int (lo + (i : Nat))) ⟨sl0, S⟩ fun Γ2 => Tt Γ2 fun b Γ3 => (b = true → Te Γ3 fun e Γ4 => acc.length < sizeLine ∧ N (acc ++ [e]) Γ4.S) ∧ (b = false → N acc Γ3.S)) (S : Option Sto) (h0 : P 0 [] S) : lcGo G Tt Te sl0 (rngD lo n) [] S k := by
  refine lcL _ P (by rw [rngD_len]; exact hend) (fun i d acc S N hd hp hN => ?_) S h0
  obtain ⟨hi, rfl⟩ := rngD_get hd
  exact hs i acc S N hi hp hN

def m_law_mixed : MS := fun ds S k => ∃ xs, ds = [.lst xs] ∧ xs.length ≤ 1000 ∧ ∀ ys S', ys.Perm xs → k (.own (.lst ys)) S'
theorem len_law_mixed : ∀ ds S κ, m_law_mixed ds S κ → ds.length = 1 := by rintro _ _ _ ⟨n, rfl, _⟩; rfl
theorem mono_law_mixed : ∀ ds S k k', (∀ b S, k b S → k' b S) → m_law_mixed ds S k → m_law_mixed ds S k' := fun _ _ _ _ f ⟨n, e, h0, h⟩ => ⟨n, e, h0, fun r S' a => f _ _ (h r S' a)⟩
theorem perm_pick {α : Type} {xs : List α} {j : Nat} (h : j < xs.length) : (xs[j] :: (xs.take j ++ xs.drop (j + 1))).Perm xs := by
  have e : xs = xs.take j ++ xs[j] :: xs.drop (j + 1) := by
    rw [← List.drop_eq_getElem_cons h, List.take_append_drop]
  exact (List.perm_middle.symm).trans (by rw [← e])
def N_law_mixed : List Str := ["_law_row", "_law_style", "_law_left", "_law_out", "_law_k", "_law_at"]
def T_law_mixed_0_6 : DS :=
    (dRet (dMove 4))
def T_law_mixed_1_2 : DS :=
    (dSet 3 (dOp addD (dFz (dSl (dVarQ 3) dNoP (dPart (dVarQ 6)))) (dFz (dSl (dVarQ 3) (dPart (dFz (dOp addD (dVarQ 6) (dC (.int 1))))) dNoP))))
def T_law_mixed_1_1 : DS :=
    dSeq (dApp 4 (dFz (dOp ixD (dVarQ 3) (dVarQ 6))))
    T_law_mixed_1_2
def T_law_mixed_1_0 : DS :=
    dSeq (dSet 6 (dCallS m_law_take 0 (dCons (dFz (dCl lenD (dCons (dVarQ 3) dNil))) dNil)))
    T_law_mixed_1_1
def T_law_mixed_0_5 : DS :=
    dSeq (dFor (dIR1 (dFz (dCl lenD (dCons (dVarQ 1) dNil)))) (dGN 5)
    T_law_mixed_1_0)
    T_law_mixed_0_6
def T_law_mixed_0_4 : DS :=
    dSeq (dSet 4 (dLst dNil))
    T_law_mixed_0_5
def T_law_mixed_2_0 : DS :=
    (dRet (dRevL (dVarQ 3)))
def T_law_mixed_0_3 : DS :=
    dSeq (dIf (dTest (dOp (eqD false) (dVarQ 2) (dC (.int 1))))
    T_law_mixed_2_0
    dNext)
    T_law_mixed_0_4
def T_law_mixed_3_0 : DS :=
    (dRet (dMove 3))
def T_law_mixed_0_2 : DS :=
    dSeq (dIf (dTest (dOp (eqD false) (dVarQ 2) (dC (.int 0))))
    T_law_mixed_3_0
    dNext)
    T_law_mixed_0_3
def T_law_mixed_0_1 : DS :=
    dSeq (dSet 3 (dCl lstCD (dCons (dVarQ 1) dNil)))
    T_law_mixed_0_2
def T_law_mixed_0_0 : DS :=
    dSeq (dSet 2 (dCallS m_law_take 0 (dCons (dC (.int 3)) dNil)))
    T_law_mixed_0_1
abbrev T_law_mixed : DS := T_law_mixed_0_0
theorem rd_law_mixed : ∀ ds S κ, m_law_mixed ds S κ → T_law_mixed ⟨fun Γ => rtS κ (.fro .non) Γ.S, rtS κ, fun _ => False, fun _ => False, fun _ _ => False⟩ ⟨some .sto :: startD N_law_mixed ds, some S⟩ := by
  rintro ds S κ ⟨xs, rfl, hl, h⟩
  walk_at "w"
  refine ⟨_, rfl, by decide, fun r S1 r1 r2 r3 => ?_⟩
  walk_at "w"
  refine ⟨fun _ => ?_, fun _ => ?_⟩
  · walk_at "w"
    exact h _ _ (List.Perm.refl _)
  walk_at "w"
  refine ⟨fun _ => ?_, fun _ => ?_⟩
  · walk_at "w"
    exact h _ _ (List.reverse_perm _)
  walk_at "w"
  walk_at "g"
  refine And.intro ⟨by omega, by omega⟩ ?_
  walk_at "w"
  refine forR (fun i Γ => ∃ ls os b1 b2 S, Γ = ⟨[bS, bl xs, bi r, ol ls, ol os, b1, b2], some S⟩ ∧ (os ++ ls).Perm xs ∧ os.length = i) ?_ ?_ _ ⟨_, _, _, _, _, rfl, List.Perm.refl _, rfl⟩
  · rintro Γ ⟨ls, os, b1, b2, S, rfl, hp, hi⟩
    have e : ls = [] := by
      have := hp.length_eq
      rw [List.length_append] at this
      exact List.length_eq_zero_iff.mp (by omega)
    subst e
    walk_at "w"
    exact h _ _ (by rw [List.append_nil] at hp; exact hp)
  · rintro i Γ N hi ⟨ls, os, b1, b2, S, rfl, hp, ho⟩ hN
    have hle := hp.length_eq
    rw [List.length_append] at hle
    walk_at "w"
    refine ⟨_, rfl, log9 (by omega), fun r S1 r1 r2 r3 => ?_⟩
    have r2 := r2 (by omega)
    obtain ⟨j, rfl⟩ : ∃ j : Nat, r = j := ⟨r.toNat, by omega⟩
    have hj : j < ls.length := by omega
    walk_at "w"
    refine ⟨ls[j], atI_nat (List.getElem?_eq_getElem hj), ?_⟩
    walk_at "w"
    refine And.intro (slt (by omega)) ?_
    walk_at "w"
    refine And.intro (sle ?_) ?_
    · have h1 := cut_len ls none (some (j : Int))
      have h2 := cut_len ls (some ((j : Int) + 1)) none
      omega
    walk_at "w"
    refine hN _ ⟨_, _, _, _, _, rfl, ?_, by rw [List.length_append, ho]; rfl⟩
    have e1 := cut_to ls j
    have e2 := cut_from ls (j + 1)
    have e3 : cutD ls none (some (j : Int)) ++ cutD ls (some ((j : Int) + 1)) none = ls.take j ++ ls.drop (j + 1) := by
      rw [e1, ← e2]
      rfl
    rw [e3, List.append_assoc]
    exact ((List.Perm.append_left os (perm_pick hj))).trans hp

theorem sign_in (c : Nat) (t : Str) : strIn ⟨#[c]⟩ t = decide (c ∈ t.cps.toList) := StrLaws.found_one t c
theorem sg36 : (("abcdefghijklmnopqrstuvwxyz0123456789" : Str)).cps.toList = (List.range 26).map (· + 97) ++ (List.range 10).map (· + 48) := by decide +kernel
theorem sg36_mem (c : Nat) : c ∈ (("abcdefghijklmnopqrstuvwxyz0123456789" : Str)).cps.toList ↔ isSg c = true := by
  rw [sg36]
  simp only [List.mem_append, List.mem_map, List.mem_range, isSg, isLo, Bool.or_eq_true, Bool.and_eq_true, decide_eq_true_eq]
  constructor
  · rintro (⟨a, h, rfl⟩ | ⟨a, h, rfl⟩)
    · exact .inl ⟨by omega, by omega⟩
    · exact .inr ⟨by omega, by omega⟩
  · rintro (⟨h1, h2⟩ | ⟨h1, h2⟩)
    · exact .inl ⟨c - 97, by omega, by omega⟩
    · exact .inr ⟨c - 48, by omega, by omega⟩
theorem dg10 : (("0123456789" : Str)).cps.toList = (List.range 10).map (· + 48) := by decide +kernel
theorem dg10_mem (c : Nat) : c ∈ (("0123456789" : Str)).cps.toList ↔ (48 ≤ c ∧ c ≤ 57) := by
  rw [dg10]
  simp only [List.mem_map, List.mem_range]
  constructor
  · rintro ⟨a, h, rfl⟩
    omega
  · rintro ⟨h1, h2⟩
    exact ⟨c - 48, by omega, by omega⟩
def m_law_is_name : MP := fun ds k => ∃ s : Str, ds = [.str s] ∧ s.length ≤ 100000 ∧ ∀ b : Bool, (b = true ↔ IsNm s) → k (.fro (.bl b))
theorem len_law_is_name : ∀ ds κ, m_law_is_name ds κ → ds.length = 1 := by rintro _ _ ⟨n, rfl, _⟩; rfl
theorem mono_law_is_name : ∀ ds k k', (∀ b, k b → k' b) → m_law_is_name ds k → m_law_is_name ds k' := fun _ _ _ f ⟨n, e, h0, h⟩ => ⟨n, e, h0, fun r a => f _ (h r a)⟩
def N_law_is_name : List Str := ["_law_text", "_law_sign"]
def T_law_is_name_0_2 : DS :=
    (dRet (dOp (inD true) (dFz (dOp ixD (dVarQ 0) (dC (.int 0)))) (dC (.str "0123456789"))))
def T_law_is_name_2_0 : DS :=
    (dRet (dUp (dC (.bl false))))
def T_law_is_name_1_0 : DS :=
    (dIf (dTest (dOp (inD true) (dVarQ 1) (dC (.str "abcdefghijklmnopqrstuvwxyz0123456789"))))
    T_law_is_name_2_0
    dNext)
def T_law_is_name_0_1 : DS :=
    dSeq (dFor (dISq (dVar 0)) (dGN 1)
    T_law_is_name_1_0)
    T_law_is_name_0_2
def T_law_is_name_3_0 : DS :=
    (dRet (dUp (dC (.bl false))))
def T_law_is_name_0_0 : DS :=
    dSeq (dIf (dOr (dNot (dTest (dIsa .str (dVarQ 0)))) (dOr (dTest (dOp ltD (dFz (dCl lenD (dCons (dVarQ 0) dNil))) (dC (.int 1)))) (dTest (dOp gtD (dFz (dCl lenD (dCons (dVarQ 0) dNil))) (dC (.int 12))))))
    T_law_is_name_3_0
    dNext)
    T_law_is_name_0_1
abbrev T_law_is_name : DS := T_law_is_name_0_0
theorem rd_law_is_name : ∀ ds κ, m_law_is_name ds κ → T_law_is_name ⟨fun _ => κ (.fro .non), rtP κ, fun _ => False, fun _ => False, fun _ _ => False⟩ ⟨startD N_law_is_name ds, none⟩ := by
  rintro ds κ ⟨s, rfl, hl, h⟩
  have hs := str_len s
  have bad : ¬ IsNm s → κ (.fro (.bl false)) := fun hn => h false ⟨(fun z => nomatch z), fun z => absurd z hn⟩
  walk_at "w"
  walk_at "g"
  refine And.intro (sle hl) ?_
  walk_at "w"
  refine ⟨fun h1 => ?_, fun h1 => ?_⟩
  · have h1 := of_decide_eq_true h1
    walk_at "w"
    walk_at "g"
    exact bad fun z => by have := z.len; omega
  have h1 := of_decide_eq_false h1
  walk_at "w"
  refine And.intro (sle hl) ?_
  walk_at "w"
  refine ⟨fun h2 => ?_, fun h2 => ?_⟩
  · have h2 := of_decide_eq_true h2
    walk_at "w"
    exact bad fun z => by have := z.len; omega
  have h2 := of_decide_eq_false h2
  walk_at "w"
  refine forL _ (fun i Γ => ∃ b, Γ = ⟨[bs s, b], none⟩ ∧ ∀ (j : Nat) c, j < i → s.cps.toList[j]? = some c → isSg c = true) ?_ ?_ _ ⟨_, rfl, fun j c hj => absurd hj (Nat.not_lt_zero _)⟩
  · rintro Γ ⟨b, rfl, ha⟩
    rw [List.length_map] at ha
    cases e : s.cps.toList with
    | nil => rw [e] at hs; simp at hs; omega
    | cons c l =>
      rw [e] at ha hs
      rw [List.length_cons] at hs
      walk_at "w"
      refine And.intro (sle hl) ⟨c, by rw [e]; exact atI_nat (j := 0) rfl, ?_⟩
      walk_at "w"
      refine h _ ?_
      show (!strIn ⟨#[c]⟩ ("0123456789" : Str)) = true ↔ _
      rw [sign_in, Bool.not_eq_true', decide_eq_false_iff_not, dg10_mem]
      have hc : isSg c = true := ha 0 c (by simp) rfl
      constructor
      · intro hd
        refine ⟨c, l, e, ?_, by omega, fun x hx => ?_⟩
        · simp [isSg, isLo] at hc ⊢
          omega
        · obtain ⟨i, hi, rfl⟩ := List.getElem_of_mem hx
          exact ha (i + 1) _ (by rw [List.length_cons]; omega) (by rw [List.getElem?_cons_succ]; exact List.getElem?_eq_getElem hi)
      · rintro ⟨c', l', e', hc', _⟩
        rw [e] at e'
        have := (List.cons.inj e').1
        subst this
        simp [isLo] at hc'
        omega
  · rintro i d Γ N hd ⟨b, rfl, ha⟩ hN
    rw [List.getElem?_map] at hd
    cases e : s.cps.toList[i]? with
    | none => rw [e] at hd; cases hd
    | some c =>
      rw [e] at hd
      have hd := Option.some.inj hd
      subst hd
      walk_at "w"
      refine ⟨fun h3 => ?_, fun h3 => ?_⟩
      · walk_at "w"
        refine bad fun z => ?_
        have h3 : (!strIn ⟨#[c]⟩ ("abcdefghijklmnopqrstuvwxyz0123456789" : Str)) = true := h3
        rw [sign_in, Bool.not_eq_true', decide_eq_false_iff_not, sg36_mem] at h3
        obtain ⟨c', l', e', h4, _, h5⟩ := z
        have hm := List.mem_of_getElem? e
        rw [e'] at hm
        rcases List.mem_cons.mp hm with rfl | hm
        · exact h3 (by rw [isSg, h4]; rfl)
        · exact h3 (h5 c hm)
      · walk_at "w"
        have h3 : (!strIn ⟨#[c]⟩ ("abcdefghijklmnopqrstuvwxyz0123456789" : Str)) = false := h3
        rw [sign_in, Bool.not_eq_false', decide_eq_true_eq, sg36_mem] at h3
        refine hN _ ⟨_, rfl, fun j c' hj hc' => ?_⟩
        by_cases hji : j = i
        · subst hji
          rw [e] at hc'
          have := Option.some.inj hc'
          subst this
          exact h3
        · exact ha j c' (by omega) hc'

/-! ### fresh names -/
theorem pigeon {α : Type} [BEq α] [LawfulBEq α] : ∀ {l m : List α}, l.Nodup → (∀ x ∈ l, x ∈ m) → l.length ≤ m.length
  | [], _, _, _ => Nat.zero_le _
  | a :: l, m, hn, hs => by
    obtain ⟨h1, h2⟩ := List.nodup_cons.mp hn
    have ha : a ∈ m := hs a (List.mem_cons_self ..)
    have := pigeon (l := l) (m := m.erase a) h2 fun x hx => (List.mem_erase_of_ne (fun e => h1 (by rw [← e]; exact hx))).mpr (hs x (List.mem_cons_of_mem _ hx))
    rw [List.length_erase_of_mem ha] at this
    have h3 := List.length_pos_of_mem ha
    rw [List.length_cons]
    omega
def numS (n : Nat) : Str := Str.ofString (toString ((n : Nat) : Int))
theorem numS_list (n : Nat) : (numS n).cps.toList = TL.numL n := TL.tl_num n
def nK (k : Nat) : Str := ("n" : Str) ++ numS k
theorem nK_list (k : Nat) : (nK k).cps.toList = 110 :: TL.numL k := by
  unfold nK
  rw [str_app, numS_list]
  have e : (("n" : Str)).cps.toList = [110] := by decide +kernel
  rw [e]
  rfl
theorem nK_inj {a b : Nat} (h : nK a = nK b) : a = b := by
  have e : (nK a).cps.toList = (nK b).cps.toList := by rw [h]
  rw [nK_list, nK_list] at e
  exact TL.numL_inj (List.cons.inj e).2
theorem nK_nm {k : Nat} (h : k < 10 ^ 11) : IsNm (nK k) := by
  refine ⟨110, TL.numL k, nK_list k, by decide, TL.numL_len (by decide) h, fun x hx => ?_⟩
  have h1 := TL.numL_digits k x hx
  simp [isSg, isLo]
  omega
theorem memD_str (s : Str) : ∀ ws : List Str, memD (.str s) (ws.map D.str) = decide (s ∈ ws)
  | [] => by simp [memD]
  | w :: ws => by
    have ih := memD_str s ws
    unfold memD at ih ⊢
    rw [List.map_cons, List.any_cons, ih]
    show (w == s || decide (s ∈ ws)) = _
    rw [Bool.eq_iff_iff]
    simp only [Bool.or_eq_true, beq_iff_eq, decide_eq_true_eq, List.mem_cons]
    constructor
    · rintro (h | h)
      · exact .inl h.symm
      · exact .inr h
    · rintro (h | h)
      · exact .inl h.symm
      · exact .inr h
theorem sca_strs : ∀ ws : List Str, (ws.map D.str).all D.sca = true
  | [] => rfl
  | w :: ws => by rw [List.map_cons, List.all_cons, sca_strs ws]; rfl
def m_law_fresh : MP := fun ds k => ∃ (s : Str) (ws : List Str), ds = [.str s, .lst (ws.map D.str)] ∧ s.length ≤ 100000 ∧ ws.length ≤ 1000 ∧ ∀ w, IsNm w → w ∉ ws → k (.fro (.str w))
theorem len_law_fresh : ∀ ds κ, m_law_fresh ds κ → ds.length = 2 := by rintro _ _ ⟨n, _, rfl, _⟩; rfl
theorem mono_law_fresh : ∀ ds k k', (∀ b, k b → k' b) → m_law_fresh ds k → m_law_fresh ds k' := fun _ _ _ f ⟨n, m, e, h0, h1, h⟩ => ⟨n, m, e, h0, h1, fun r a b => f _ (h r a b)⟩
def N_law_fresh : List Str := ["_law_text", "_law_taken", "_law_k"]
def T_law_fresh_0_2 : DS :=
    (dRet (dUp (dC (.str "n"))))
def T_law_fresh_2_0 : DS :=
    (dRet (dOp addD (dC (.str "n")) (dFz (dCl strCD (dCons (dVarQ 2) dNil)))))
def T_law_fresh_1_0 : DS :=
    (dIf (dTest (dOp (inD true) (dFz (dOp addD (dC (.str "n")) (dFz (dCl strCD (dCons (dVarQ 2) dNil))))) (dVarQ 1)))
    T_law_fresh_2_0
    dNext)
def T_law_fresh_0_1 : DS :=
    dSeq (dFor (dIR1 (dFz (dOp addD (dFz (dCl lenD (dCons (dVarQ 1) dNil))) (dC (.int 1))))) (dGN 2)
    T_law_fresh_1_0)
    T_law_fresh_0_2
def T_law_fresh_3_0 : DS :=
    (dRet (dMove 0))
def T_law_fresh_0_0 : DS :=
    dSeq (dIf (dAnd (dTest (dCall m_law_is_name [] (dCons (dVar 0) dNil))) (dTest (dOp (inD true) (dVarQ 0) (dVarQ 1))))
    T_law_fresh_3_0
    dNext)
    T_law_fresh_0_1
abbrev T_law_fresh : DS := T_law_fresh_0_0
theorem rd_law_fresh : ∀ ds κ, m_law_fresh ds κ → T_law_fresh ⟨fun _ => κ (.fro .non), rtP κ, fun _ => False, fun _ => False, fun _ _ => False⟩ ⟨startD N_law_fresh ds, none⟩ := by
  rintro ds κ ⟨s, ws, rfl, hl, hw, h⟩
  have rest : T_law_fresh_0_1 ⟨fun _ => κ (.fro .non), rtP κ, fun _ => False, fun _ => False, fun _ _ => False⟩ ⟨startD N_law_fresh [.str s, .lst (ws.map D.str)], none⟩ := by
    walk_at "w"
    rw [List.length_map]
    refine And.intro ⟨by omega, by omega⟩ ?_
    have hn : ((ws.length : Int) + 1).toNat = ws.length + 1 := by omega
    rw [hn]
    refine forR (fun i Γ => ∃ b, Γ = ⟨[bs s, bl (ws.map D.str), b], none⟩ ∧ ∀ j < i, nK j ∈ ws) ?_ ?_ _ ⟨_, rfl, fun j hj => absurd hj (Nat.not_lt_zero _)⟩
    · rintro Γ ⟨b, rfl, ha⟩
      exfalso
      have h1 := pigeon (l := (List.range (ws.length + 1)).map nK) (m := ws) (by
        rw [List.Nodup, List.pairwise_map]
        exact List.nodup_range.imp fun hne e => hne (nK_inj e)) fun x hx => by
        obtain ⟨j, hj, rfl⟩ := List.mem_map.mp hx
        exact ha j (List.mem_range.mp hj)
      rw [List.length_map, List.length_range] at h1
      omega
    · rintro i Γ N hi ⟨b, rfl, ha⟩ hN
      have h0 : (0 : Int) + ((i : Nat) : Int) = (i : Int) := Int.zero_add _
      rw [h0]
      have hsz : (numS i).length ≤ 20 := by
        rw [str_len, numS_list]
        exact Nat.le_trans (TL.numL_len (k := 20) (by decide) (by omega)) (Nat.le_refl _)
      walk_at "w"
      refine And.intro ?_ ?_
      · have : (i : Int).natAbs = i := Int.natAbs_natCast i
        rw [this]
        by_cases h0 : i = 0
        · subst h0; decide
        · have h1 : i.log2 < 17 := (Nat.log2_lt h0).mpr (by omega)
          omega
      walk_at "w"
      refine And.intro (sle (by show (1 : Nat) + (numS i).length ≤ _; omega)) ?_
      walk_at "w"
      refine And.intro rfl (And.intro (sca_strs ws) ?_)
      walk_at "w"
      refine ⟨fun h3 => ?_, fun h3 => ?_⟩
      · have h3 : (!memD (.str (nK i)) (ws.map D.str)) = true := h3
        rw [memD_str, Bool.not_eq_true', decide_eq_false_iff_not] at h3
        walk_at "w"
        refine And.intro ?_ ?_
        · have : (i : Int).natAbs = i := Int.natAbs_natCast i
          rw [this]
          by_cases h0 : i = 0
          · subst h0; decide
          · have h1 : i.log2 < 17 := (Nat.log2_lt h0).mpr (by omega)
            omega
        walk_at "w"
        refine And.intro (sle (by show (1 : Nat) + (numS i).length ≤ _; omega)) ?_
        exact h (nK i) (nK_nm (by omega)) h3
      · have h3 : (!memD (.str (nK i)) (ws.map D.str)) = false := h3
        rw [memD_str, Bool.not_eq_false', decide_eq_true_eq] at h3
        walk_at "w"
        refine hN _ ⟨_, rfl, fun j hj => ?_⟩
        by_cases hji : j = i
        · rw [hji]; exact h3
        · exact ha j (by omega)
  walk_at "w"
  refine ⟨s, rfl, hl, fun b hb => ?_⟩
  walk_at "w"
  refine ⟨fun h1 => ?_, fun h1 => ?_⟩
  · walk_at "w"
    refine And.intro rfl (And.intro (sca_strs ws) ?_)
    walk_at "w"
    refine ⟨fun h3 => ?_, fun h3 => ?_⟩
    · have h3 : (!memD (.str s) (ws.map D.str)) = true := h3
      rw [memD_str, Bool.not_eq_true', decide_eq_false_iff_not] at h3
      walk_at "w"
      exact h s (hb.mp h1) h3
    · exact rest
  · walk_at "w"
    walk_at "g"
    exact rest

/-! ### words, texts, lists of names -/
theorem mul_len {s : Str} {n : Int} {L : Nat} (h : s.length ≤ L) (h2 : n ≤ 1000) : (Txt.mul s n).length ≤ L * 1000 := by
  by_cases h1 : 1 ≤ n
  · rw [str_len, mul_list s h1, List.length_flatten, List.map_replicate, List.sum_replicate_nat]
    rw [str_len] at h
    calc n.toNat * s.cps.toList.length ≤ 1000 * L := Nat.mul_le_mul (by omega) h
      _ = L * 1000 := Nat.mul_comm _ _
  · unfold Txt.mul
    rw [if_pos (by omega)]
    exact Nat.zero_le _
def m_law_word : MS := fun ds S k => ds = [] ∧ ∀ w S', IsNm w → k (.fro (.str w)) S'
theorem len_law_word : ∀ ds S κ, m_law_word ds S κ → ds.length = 0 := by rintro _ _ _ ⟨rfl, _⟩; rfl
theorem mono_law_word : ∀ ds S k k', (∀ b S, k b S → k' b S) → m_law_word ds S k → m_law_word ds S k' := fun _ _ _ _ f ⟨e, h⟩ => ⟨e, fun r S' a => f _ _ (h r S' a)⟩
theorem log36 {m : Nat} (h : m ≤ 11) : ((36 : Int) ^ m).natAbs.log2 < 9000 := by
  have : m = 0 ∨ m = 1 ∨ m = 2 ∨ m = 3 ∨ m = 4 ∨ m = 5 ∨ m = 6 ∨ m = 7 ∨ m = 8 ∨ m = 9 ∨ m = 10 ∨ m = 11 := by omega
  rcases this with rfl | rfl | rfl | rfl | rfl | rfl | rfl | rfl | rfl | rfl | rfl | rfl <;> decide +kernel
def N_law_word : List Str := ["_law_signs", "_law_many", "_law_text", "_law_size", "_law_k", "_law_left"]
def T_law_word_0_7 : DS :=
    (dRet (dMove 3))
def T_law_word_1_1 : DS :=
    (dSet 6 (dOp fdivD (dVarQ 6) (dC (.int 36))))
def T_law_word_1_0 : DS :=
    dSeq (dSet 3 (dOp addD (dVarQ 3) (dFz (dOp ixD (dVarQ 1) (dFz (dOp modD (dFz (dCl intCD (dCons (dVarQ 6) dNil))) (dC (.int 36))))))))
    T_law_word_1_1
def T_law_word_0_6 : DS :=
    dSeq (dFor (dIR1 (dVarQ 4)) (dGN 5)
    T_law_word_1_0)
    T_law_word_0_7
def T_law_word_0_5 : DS :=
    dSeq (dSet 6 (dCallS m_law_take 0 (dCons (dVar 2) dNil)))
    T_law_word_0_6
def T_law_word_2_0 : DS :=
    (dSet 2 (dOp mulD (dVarQ 2) (dC (.int 36))))
def T_law_word_0_4 : DS :=
    dSeq (dFor (dIR1 (dVarQ 4)) (dGN 5)
    T_law_word_2_0)
    T_law_word_0_5
def T_law_word_0_3 : DS :=
    dSeq (dSet 4 (dCallS m_law_some 0 (dCons (dC (.int 0)) (dCons (dC (.int 11)) dNil))))
    T_law_word_0_4
def T_law_word_0_2 : DS :=
    dSeq (dSet 3 (dOp ixD (dVarQ 1) (dFz (dCallS m_law_take 0 (dCons (dC (.int 26)) dNil)))))
    T_law_word_0_3
def T_law_word_0_1 : DS :=
    dSeq (dSet 2 (dUp (dC (.int 1))))
    T_law_word_0_2
def T_law_word_0_0 : DS :=
    dSeq (dSet 1 (dUp (dC (.str "abcdefghijklmnopqrstuvwxyz0123456789"))))
    T_law_word_0_1
abbrev T_law_word : DS := T_law_word_0_0
theorem rd_law_word : ∀ ds S κ, m_law_word ds S κ → T_law_word ⟨fun Γ => rtS κ (.fro .non) Γ.S, rtS κ, fun _ => False, fun _ => False, fun _ _ => False⟩ ⟨some .sto :: startD N_law_word ds, some S⟩ := by
  rintro ds S κ ⟨rfl, h⟩
  have h36 : (("abcdefghijklmnopqrstuvwxyz0123456789" : Str)).cps.toList.length = 36 := by rw [sg36]; decide
  have hl36 : ("abcdefghijklmnopqrstuvwxyz0123456789" : Str).length = 36 := by rw [str_len, h36]
  walk_at "w"
  refine ⟨_, rfl, by decide, fun r S1 r1 r2 r3 => ?_⟩
  have r2 := r2 (by omega)
  obtain ⟨j, rfl⟩ : ∃ j : Nat, r = j := ⟨r.toNat, by omega⟩
  walk_at "w"
  refine And.intro (sle (by omega)) ⟨_, atI_nat (List.getElem?_eq_getElem (by omega)), ?_⟩
  have hlo : isLo (("abcdefghijklmnopqrstuvwxyz0123456789" : Str).cps.toList[j]'(by omega)) = true := by
    have e : ("abcdefghijklmnopqrstuvwxyz0123456789" : Str).cps.toList[j]? = some (j + 97) := by
      rw [sg36, List.getElem?_append_left (by simp; omega), List.getElem?_map, List.getElem?_range (by omega)]
      rfl
    have e2 := (List.getElem?_eq_getElem (by omega)).symm.trans e
    rw [Option.some.inj e2]
    simp [isLo]
    omega
  generalize ("abcdefghijklmnopqrstuvwxyz0123456789" : Str).cps.toList[j]'(by omega) = c0 at hlo
  walk_at "w"
  refine ⟨_, _, rfl, by decide, fun z S2 z1 z2 => ?_⟩
  have z2 := z2 (by omega)
  obtain ⟨n, rfl⟩ : ∃ n : Nat, z = n := ⟨z.toNat, by omega⟩
  walk_at "w"
  refine And.intro ⟨by omega, by omega⟩ ?_
  have hn : ((n : Int)).toNat = n := Int.toNat_natCast n
  rw [hn]
  have last : ∀ (t : Str) (l b : Option B) (S : Sto) (many : Int), IsNm t → T_law_word_0_7 (EnS κ) ⟨[bS, bs "abcdefghijklmnopqrstuvwxyz0123456789", bi many, bs t, bi (n : Int), b, l], some S⟩ := by
    intro t l b S many ht
    walk_at "w"
    exact h t S ht
  have second : ∀ (b : Option B) (S : Sto), T_law_word_0_5 (EnS κ) ⟨[bS, bs "abcdefghijklmnopqrstuvwxyz0123456789", bi (36 ^ n), bs ⟨#[c0]⟩, bi (n : Int), b, none], some S⟩ := by
    intro b S
    walk_at "w"
    refine ⟨_, rfl, log36 (by omega), fun r S3 r1 _ _ => ?_⟩
    walk_at "w"
    refine And.intro ⟨by omega, by omega⟩ ?_
    rw [hn]
    refine forR (fun i Γ => ∃ (t : Str) (l : List Nat) (r : Int) (b : Option B) (S : Sto), Γ = ⟨[bS, bs "abcdefghijklmnopqrstuvwxyz0123456789", bi (36 ^ n), bs t, bi (n : Int), b, bi r], some S⟩ ∧ t.cps.toList = c0 :: l ∧ l.length = i ∧ ∀ x ∈ l, isSg x = true) ?_ ?_ _ ⟨_, [], _, _, _, rfl, rfl, rfl, fun x hx => absurd hx (by simp)⟩
    · rintro Γ ⟨t, l, r, b, S, rfl, e, hl, hx⟩
      exact last t (bi r) b S (36 ^ n) ⟨c0, l, e, hlo, by omega, hx⟩
    · rintro i Γ N hi ⟨t, l, r, b, S, rfl, e, hl, hx⟩ hN
      walk_at "w"
      walk_at "g"
      have hr1 := Int.emod_nonneg r (show (36 : Int) ≠ 0 by decide)
      have hr2 := Int.emod_lt_of_pos r (show (0 : Int) < 36 by decide)
      obtain ⟨q, hq⟩ : ∃ q : Nat, r % 36 = q := ⟨(r % 36).toNat, by omega⟩
      refine ⟨("abcdefghijklmnopqrstuvwxyz0123456789" : Str).cps.toList[q]'(by omega), by
        show atI _ (r % 36) = _
        rw [hq]
        exact atI_nat (List.getElem?_eq_getElem (by omega)), ?_⟩
      have ht : t.length = i + 1 := by rw [str_len, e, List.length_cons, hl]
      walk_at "w"
      refine And.intro (sle (by show t.length + 1 ≤ _; omega)) ?_
      walk_at "w"
      walk_at "g"
      refine hN _ ⟨_, l ++ [("abcdefghijklmnopqrstuvwxyz0123456789" : Str).cps.toList[q]'(by omega)], _, _, _, rfl, ?_, by rw [List.length_append, hl]; rfl, fun x hx' => ?_⟩
      · rw [str_app, e]
        rfl
      · rcases List.mem_append.mp hx' with hx' | hx'
        · exact hx x hx'
        · have hx' := List.mem_singleton.mp hx'
          subst hx'
          exact (sg36_mem _).mp (List.getElem_mem _)
  refine forR (fun i Γ => ∃ (b : Option B) (S : Sto), Γ = ⟨[bS, bs "abcdefghijklmnopqrstuvwxyz0123456789", bi (36 ^ i), bs ⟨#[c0]⟩, bi (n : Int), b, none], some S⟩) ?_ ?_ _ ⟨_, _, rfl⟩
  · rintro Γ ⟨b, S, rfl⟩
    exact second b S
  · rintro i Γ N hi ⟨b, S, rfl⟩ hN
    walk_at "w"
    walk_at "g"
    refine hN _ ⟨bi (0 + (i : Nat)), S, ?_⟩
    rw [Int.pow_succ]
    rfl


/-! ### names -/
def m_law_names : MS := fun ds S k => ∃ m : Int, ds = [.int m] ∧ 0 ≤ m ∧ m ≤ 100 ∧ ∀ (ws : List Str) S', (ws.length : Int) = m → ws.Nodup → (∀ w ∈ ws, IsNm w) → k (.own (.lst (ws.map D.str))) S'
theorem len_law_names : ∀ ds S κ, m_law_names ds S κ → ds.length = 1 := by rintro _ _ _ ⟨_, rfl, _⟩; rfl
theorem mono_law_names : ∀ ds S k k', (∀ b S, k b S → k' b S) → m_law_names ds S k → m_law_names ds S k' := fun _ _ _ _ f ⟨m, e, h0, h1, h⟩ => ⟨m, e, h0, h1, fun r S' a b c => f _ _ (h r S' a b c)⟩
def N_law_names : List Str := ["_law_many", "_law_signs", "_law_words", "_law_style", "_law_head", "_law_cut", "_law_out", "_law_k", "_law_text"]
def T_law_names_0_9 : DS :=
    (dRet (dCallS m_law_mixed 0 (dCons (dVar 7) dNil)))
def T_law_names_1_7 : DS :=
    (dApp 7 (dCallQ m_law_fresh [] (dCons (dVarQ 9) (dCons (dVarQ 7) dNil))))
def T_law_names_2_0 : DS :=
    (dSet 9 (dSl (dFz (dOp addD (dVarQ 5) (dC (.str "aaaaaaaaaaaa")))) dNoP (dPart (dFz (dOp addD (dC (.int 1)) (dFz (dOp modD (dFz (dCl intCD (dCons (dVarQ 8) dNil))) (dC (.int 12)))))))))
def T_law_names_1_6 : DS :=
    dSeq (dIf (dTest (dOp (eqD false) (dVarQ 4) (dC (.int 7))))
    T_law_names_2_0
    dNext)
    T_law_names_1_7
def T_law_names_3_0 : DS :=
    (dSet 9 (dCallS m_law_word 0 dNil))
def T_law_names_1_5 : DS :=
    dSeq (dIf (dTest (dOp (eqD false) (dVarQ 4) (dC (.int 6))))
    T_law_names_3_0
    dNext)
    T_law_names_1_6
def T_law_names_4_0 : DS :=
    (dSet 9 (dOp addD (dC (.str "n")) (dFz (dCl strCD (dCons (dFz (dOp addD (dC (.int 8)) (dVarQ 8))) dNil)))))
def T_law_names_1_4 : DS :=
    dSeq (dIf (dTest (dOp (eqD false) (dVarQ 4) (dC (.int 5))))
    T_law_names_4_0
    dNext)
    T_law_names_1_5
def T_law_names_5_0 : DS :=
    (dSet 9 (dOp addD (dFz (dOp ixD (dVarQ 2) (dFz (dOp subD (dC (.int 25)) (dFz (dOp modD (dFz (dCl intCD (dCons (dVarQ 8) dNil))) (dC (.int 26)))))))) (dFz (dOp mulD (dC (.str "a")) (dFz (dOp modD (dFz (dCl intCD (dCons (dVarQ 8) dNil))) (dC (.int 12))))))))
def T_law_names_1_3 : DS :=
    dSeq (dIf (dTest (dOp (eqD false) (dVarQ 4) (dC (.int 4))))
    T_law_names_5_0
    dNext)
    T_law_names_1_4
def T_law_names_6_0 : DS :=
    (dSet 9 (dOp ixD (dVarQ 3) (dFz (dOp modD (dFz (dCl intCD (dCons (dVarQ 8) dNil))) (dC (.int 18))))))
def T_law_names_1_2 : DS :=
    dSeq (dIf (dTest (dOp (eqD false) (dVarQ 4) (dC (.int 3))))
    T_law_names_6_0
    dNext)
    T_law_names_1_3
def T_law_names_7_0 : DS :=
    (dSet 9 (dOp addD (dFz (dOp addD (dFz (dSl (dVarQ 5) dNoP (dPart (dVarQ 6)))) (dVarQ 9))) (dFz (dSl (dVarQ 5) (dPart (dVarQ 6)) (dPart (dC (.int 11)))))))
def T_law_names_1_1 : DS :=
    dSeq (dIf (dTest (dOp (inD false) (dVarQ 4) (dTup (dCons (dC (.int 1)) (dCons (dC (.int 2)) dNil)))))
    T_law_names_7_0
    dNext)
    T_law_names_1_2
def T_law_names_1_0 : DS :=
    dSeq (dSet 9 (dOp ixD (dVarQ 2) (dFz (dOp modD (dFz (dCl intCD (dCons (dVarQ 8) dNil))) (dC (.int 26))))))
    T_law_names_1_1
def T_law_names_0_8 : DS :=
    dSeq (dFor (dIR1 (dVarQ 1)) (dGN 8)
    T_law_names_1_0)
    T_law_names_0_9
def T_law_names_0_7 : DS :=
    dSeq (dSet 7 (dLst dNil))
    T_law_names_0_8
def T_law_names_0_6 : DS :=
    dSeq (dSet 6 (dCallS m_law_take 0 (dCons (dC (.int 12)) dNil)))
    T_law_names_0_7
def T_law_names_8_0 : DS :=
    (dSet 5 (dOp addD (dFz (dCallS m_law_word 0 dNil)) (dFz (dOp ixD (dFz (dLst (dCons (dC (.str "")) (dCons (dC (.str "abcdefghijk")) dNil)))) (dFz (dCallS m_law_take 0 (dCons (dC (.int 2)) dNil)))))))
def T_law_names_0_5 : DS :=
    dSeq (dIf (dTest (dOp (inD false) (dVarQ 4) (dTup (dCons (dC (.int 1)) (dCons (dC (.int 2)) (dCons (dC (.int 7)) dNil))))))
    T_law_names_8_0
    dNext)
    T_law_names_0_6
def T_law_names_0_4 : DS :=
    dSeq (dSet 5 (dUp (dC (.str "a"))))
    T_law_names_0_5
def T_law_names_0_3 : DS :=
    dSeq (dSet 4 (dCallS m_law_take 0 (dCons (dC (.int 8)) dNil)))
    T_law_names_0_4
def T_law_names_0_2 : DS :=
    dSeq (dSet 3 (dOp addD (dVarQ 3) (dFz (dLst (dCons (dC (.str "delver")) (dCons (dC (.str "world")) (dCons (dC (.str "out")) (dCons (dC (.str "at")) (dCons (dC (.str "clear")) (dCons (dC (.str "rope")) dNil))))))))))
    T_law_names_0_3
def T_law_names_0_1 : DS :=
    dSeq (dSet 3 (dLst (dCons (dC (.str "go")) (dCons (dC (.str "back")) (dCons (dC (.str "home")) (dCons (dC (.str "to")) (dCons (dC (.str "seq")) (dCons (dC (.str "while")) (dCons (dC (.str "each")) (dCons (dC (.str "try")) (dCons (dC (.str "rest")) (dCons (dC (.str "deep")) (dCons (dC (.str "chamber")) (dCons (dC (.str "passage")) dNil))))))))))))))
    T_law_names_0_2
def T_law_names_0_0 : DS :=
    dSeq (dSet 2 (dUp (dC (.str "abcdefghijklmnopqrstuvwxyz"))))
    T_law_names_0_1
abbrev T_law_names : DS := T_law_names_0_0
theorem perm_strs {ys : List D} {ws : List Str} (h : ys.Perm (ws.map D.str)) : ∃ ws' : List Str, ys = ws'.map D.str ∧ ws'.Perm ws := by
  have : ∃ ws' : List Str, ys = ws'.map D.str := by
    have hm : ∀ y ∈ ys, ∃ w, y = D.str w := fun y hy => by
      obtain ⟨w, _, rfl⟩ := List.mem_map.mp (h.mem_iff.mp hy)
      exact ⟨w, rfl⟩
    clear h
    induction ys with
    | nil => exact ⟨[], rfl⟩
    | cons y ys ih =>
      obtain ⟨w, rfl⟩ := hm y (List.mem_cons_self ..)
      obtain ⟨ws', rfl⟩ := ih fun y hy => hm y (List.mem_cons_of_mem _ hy)
      exact ⟨w :: ws', rfl⟩
  obtain ⟨ws', rfl⟩ := this
  refine ⟨ws', rfl, ?_⟩
  have e : ∀ l : List Str, (l.map D.str).map (fun d => match d with | .str s => s | _ => "") = l := fun l => by
    rw [List.map_map]
    exact List.map_id l
  have h2 := h.map (fun d : D => match d with | .str s => s | _ => "")
  rw [e, e] at h2
  exact h2
abbrev az : Str := "abcdefghijklmnopqrstuvwxyz"
theorem az_len : az.cps.toList.length = 26 := by decide +kernel
section
variable {many style cut z : Int} {head : Str} {wl out : List Str} {De : En}
abbrev nmE (many style cut z : Int) (head : Str) (wl out : List Str) (t : Str) (S : Sto) : Ev := ⟨[bS, bi many, bs az, ol (wl.map D.str), bi style, bs head, bi cut, ol (out.map D.str), bi z, bs t], some S⟩
theorem nm7 (ho : out.length ≤ 1000) (hN : ∀ w t S, IsNm w → w ∉ out → De.nx (nmE many style cut z head wl (out ++ [w]) t S)) (t : Str) (S : Sto) (ht : t.length ≤ 1000) : T_law_names_1_7 De (nmE many style cut z head wl out t S) := by
  walk_at "w"
  refine ⟨t, out, rfl, by omega, ho, fun w h1 h2 => ?_⟩
  walk_at "w"
  refine And.intro rfl ?_
  refine And.intro (slt (by rw [List.length_map]; omega)) ?_
  have := hN w t S h1 h2
  unfold nmE at this
  rw [List.map_append] at this
  exact this
theorem cutS_len (s : Str) (lo hi : Option Int) : (cutS s lo hi).length ≤ s.length := by
  rw [str_len, cutS_list, str_len]
  exact cut_len _ _ _
theorem nm6 (hz : 0 ≤ z ∧ z ≤ 1000) (hh : head.length ≤ 30) (ho : out.length ≤ 1000) (hN : ∀ w t S, IsNm w → w ∉ out → De.nx (nmE many style cut z head wl (out ++ [w]) t S)) (t : Str) (S : Sto) (ht : t.length ≤ 1000) : T_law_names_1_6 De (nmE many style cut z head wl out t S) := by
  walk_at "w"
  refine ⟨fun h => ?_, fun h => ?_⟩
  · walk_at "w"
    refine And.intro (sle (by show head.length + 12 ≤ _; omega)) ?_
    walk_at "w"
    walk_at "g"
    have e12 : ("aaaaaaaaaaaa" : Str).length = 12 := by decide +kernel
    have h1 : (head ++ ("aaaaaaaaaaaa" : Str)).length ≤ 50 := by rw [str_len, str_app, List.length_append, ← str_len, ← str_len, e12]; omega
    refine And.intro (sle (by omega)) ?_
    exact nm7 ho hN _ S (Nat.le_trans (cutS_len _ _ _) (by omega))
  · exact nm7 ho hN t S ht
theorem nm5 (hz : 0 ≤ z ∧ z ≤ 1000) (hh : head.length ≤ 30) (ho : out.length ≤ 1000) (hN : ∀ w t S, IsNm w → w ∉ out → De.nx (nmE many style cut z head wl (out ++ [w]) t S)) (t : Str) (S : Sto) (ht : t.length ≤ 1000) : T_law_names_1_5 De (nmE many style cut z head wl out t S) := by
  walk_at "w"
  refine ⟨fun h => ?_, fun h => ?_⟩
  · walk_at "w"
    refine ⟨rfl, fun w S' hw => ?_⟩
    exact nm6 hz hh ho hN w S' (by have := hw.len; omega)
  · exact nm6 hz hh ho hN t S ht
theorem numS_len {n : Nat} (h : n ≤ 100000) : (numS n).length ≤ 20 := by
  rw [str_len, numS_list]
  exact Nat.le_trans (TL.numL_len (k := 20) (by decide) (by omega)) (Nat.le_refl _)
theorem nm4 (hz : 0 ≤ z ∧ z ≤ 1000) (hh : head.length ≤ 30) (ho : out.length ≤ 1000) (hN : ∀ w t S, IsNm w → w ∉ out → De.nx (nmE many style cut z head wl (out ++ [w]) t S)) (t : Str) (S : Sto) (ht : t.length ≤ 1000) : T_law_names_1_4 De (nmE many style cut z head wl out t S) := by
  walk_at "w"
  refine ⟨fun h => ?_, fun h => ?_⟩
  · walk_at "w"
    obtain ⟨n, hn⟩ : ∃ n : Nat, 8 + z = n := ⟨(8 + z).toNat, by omega⟩
    refine And.intro ?_ ?_
    · rw [hn]
      rw [Int.natAbs_natCast]
      by_cases q : n = 0
      · subst q; decide
      · exact Nat.lt_trans ((Nat.log2_lt q).mpr (by omega : n < 2 ^ 17)) (by decide)
    walk_at "w"
    have h1 : ("n" : Str).length = 1 := by decide +kernel
    have h2 := numS_len (n := n) (by omega)
    have h3 : (Str.ofString (toString (8 + z))).length ≤ 20 := by
      rw [hn]
      exact h2
    refine And.intro (sle (by show 1 + (Str.ofString (toString (8 + z))).length ≤ _; omega)) ?_
    refine nm5 hz hh ho hN _ S ?_
    rw [str_len, str_app, List.length_append, ← str_len, ← str_len, h1]
    exact Nat.le_trans (Nat.add_le_add_left h3 1) (by decide)
  · exact nm5 hz hh ho hN t S ht
theorem az_at {j : Int} (h0 : 0 ≤ j) (h1 : j < 26) : ∃ c, atI az.cps.toList j = some c := by
  obtain ⟨q, rfl⟩ : ∃ q : Nat, j = q := ⟨j.toNat, by omega⟩
  exact ⟨_, atI_nat (List.getElem?_eq_getElem (by rw [az_len]; omega))⟩
theorem nm3 (hz : 0 ≤ z ∧ z ≤ 1000) (hh : head.length ≤ 30) (ho : out.length ≤ 1000) (hN : ∀ w t S, IsNm w → w ∉ out → De.nx (nmE many style cut z head wl (out ++ [w]) t S)) (t : Str) (S : Sto) (ht : t.length ≤ 1000) : T_law_names_1_3 De (nmE many style cut z head wl out t S) := by
  walk_at "w"
  refine ⟨fun h => ?_, fun h => ?_⟩
  · walk_at "w"
    walk_at "g"
    have m1 := Int.emod_nonneg z (show (26 : Int) ≠ 0 by decide)
    have m2 := Int.emod_lt_of_pos z (show (0 : Int) < 26 by decide)
    obtain ⟨c, hc⟩ := az_at (j := 25 - z % 26) (by omega) (by omega)
    refine ⟨c, hc, ?_⟩
    walk_at "w"
    walk_at "g"
    have m3 := Int.emod_nonneg z (show (12 : Int) ≠ 0 by decide)
    have m4 := Int.emod_lt_of_pos z (show (0 : Int) < 12 by decide)
    have a1 : ("a" : Str).length = 1 := by decide +kernel
    refine And.intro (mulOk (by rw [a1]; decide) m3 (by show z % 12 ≤ 1000; omega)) ?_
    walk_at "w"
    have h3 := mul_len (s := ("a" : Str)) (n := z % 12) (L := 1) (by rw [a1]; decide) (by omega)
    have h4 : (Txt.mul ("a" : Str) (z % 12)).length ≤ 12 := by
      by_cases q : 1 ≤ z % 12
      · rw [str_len, mul_list _ q, List.length_flatten, List.map_replicate, List.sum_replicate_nat, ← str_len, a1]
        omega
      · unfold Txt.mul
        rw [if_pos (by omega)]
        exact Nat.zero_le _
    refine And.intro (sle (by show 1 + (Txt.mul ("a" : Str) (z % 12)).length ≤ _; omega)) ?_
    refine nm4 hz hh ho hN _ S ?_
    rw [str_len, str_app, List.length_append, ← str_len, ← str_len]
    exact Nat.le_trans (Nat.add_le_add_left h4 _) (by show 1 + 12 ≤ 1000; decide)
  · exact nm4 hz hh ho hN t S ht
theorem nm2 (hl : wl.length = 18) (hw : ∀ w ∈ wl, w.length ≤ 20) (hz : 0 ≤ z ∧ z ≤ 1000) (hh : head.length ≤ 30) (ho : out.length ≤ 1000) (hN : ∀ w t S, IsNm w → w ∉ out → De.nx (nmE many style cut z head wl (out ++ [w]) t S)) (t : Str) (S : Sto) (ht : t.length ≤ 1000) : T_law_names_1_2 De (nmE many style cut z head wl out t S) := by
  walk_at "w"
  refine ⟨fun h => ?_, fun h => ?_⟩
  · walk_at "w"
    walk_at "g"
    have m1 := Int.emod_nonneg z (show (18 : Int) ≠ 0 by decide)
    have m2 := Int.emod_lt_of_pos z (show (0 : Int) < 18 by decide)
    obtain ⟨q, hq⟩ : ∃ q : Nat, z % 18 = q := ⟨(z % 18).toNat, by omega⟩
    have hql : q < wl.length := by omega
    refine ⟨.str wl[q], ?_, ?_⟩
    · show atI _ (z % 18) = _
      rw [hq]
      refine atI_nat ?_
      rw [List.getElem?_map, List.getElem?_eq_getElem hql]
      rfl
    · exact nm3 hz hh ho hN _ S (Nat.le_trans (hw _ (List.getElem_mem hql)) (by decide))
  · exact nm3 hz hh ho hN t S ht
theorem nm1 (hl : wl.length = 18) (hw : ∀ w ∈ wl, w.length ≤ 20) (hz : 0 ≤ z ∧ z ≤ 1000) (hh : head.length ≤ 30) (ho : out.length ≤ 1000) (hN : ∀ w t S, IsNm w → w ∉ out → De.nx (nmE many style cut z head wl (out ++ [w]) t S)) (t : Str) (S : Sto) (ht : t.length ≤ 100) : T_law_names_1_1 De (nmE many style cut z head wl out t S) := by
  walk_at "w"
  walk_at "g"
  refine And.intro rfl (And.intro rfl ?_)
  walk_at "w"
  refine ⟨fun h => ?_, fun h => ?_⟩
  · walk_at "w"
    refine And.intro (sle (by omega)) ?_
    walk_at "w"
    have h1 := cutS_len head none (some cut)
    have h2 := cutS_len head (some cut) (some 11)
    refine And.intro (sle (by omega)) ?_
    walk_at "w"
    refine And.intro (sle (by omega)) ?_
    walk_at "w"
    have h3 : (cutS head none (some cut) ++ t).length ≤ 200 := by rw [str_len, str_app, List.length_append, ← str_len, ← str_len]; omega
    refine And.intro (sle (by omega)) ?_
    refine nm2 hl hw hz hh ho hN _ S ?_
    rw [str_len, str_app, List.length_append, ← str_len, ← str_len]
    omega
  · exact nm2 hl hw hz hh ho hN t S (by omega)
theorem nm0 (hl : wl.length = 18) (hw : ∀ w ∈ wl, w.length ≤ 20) (hz : 0 ≤ z ∧ z ≤ 1000) (hh : head.length ≤ 30) (ho : out.length ≤ 1000) (hN : ∀ w t S, IsNm w → w ∉ out → De.nx (nmE many style cut z head wl (out ++ [w]) t S)) (b : Option B) (S : Sto) :
    T_law_names_1_0 De ⟨[bS, bi many, bs az, ol (wl.map D.str), bi style, bs head, bi cut, ol (out.map D.str), bi z, b], some S⟩ := by
  walk_at "w"
  walk_at "g"
  have m1 := Int.emod_nonneg z (show (26 : Int) ≠ 0 by decide)
  have m2 := Int.emod_lt_of_pos z (show (0 : Int) < 26 by decide)
  obtain ⟨c, hc⟩ := az_at (j := z % 26) (by omega) (by omega)
  refine ⟨c, hc, ?_⟩
  exact nm1 hl hw hz hh ho hN _ S (by show 1 ≤ 100; decide)
end
theorem rd_law_names : ∀ ds S κ, m_law_names ds S κ → T_law_names ⟨fun Γ => rtS κ (.fro .non) Γ.S, rtS κ, fun _ => False, fun _ => False, fun _ _ => False⟩ ⟨some .sto :: startD N_law_names ds, some S⟩ := by
  rintro ds S κ ⟨m, rfl, h0, h1, h⟩
  walk_at "w"
  walk_at "g"
  refine ⟨_, rfl, by decide, fun style S1 r1 r2 r3 => ?_⟩
  walk_at "w"
  walk_at "g"
  refine And.intro rfl (And.intro rfl ?_)
  walk_at "w"
  have loop : ∀ (head : Str) (S : Sto), head.length ≤ 30 → T_law_names_0_6 (EnS κ) ⟨[bS, bi m, bs az, ol ((["go", "back", "home", "to", "seq", "while", "each", "try", "rest", "deep", "chamber", "passage", "delver", "world", "out", "at", "clear", "rope"] : List Str).map D.str), bi style, bs head, none, none, none, none], some S⟩ := by
    intro head S hh
    generalize hwl : (["go", "back", "home", "to", "seq", "while", "each", "try", "rest", "deep", "chamber", "passage", "delver", "world", "out", "at", "clear", "rope"] : List Str) = wl
    have hl : wl.length = 18 := by rw [← hwl]; rfl
    have hw : ∀ w ∈ wl, w.length ≤ 20 := by rw [← hwl]; decide +kernel
    clear hwl
    walk_at "w"
    refine ⟨_, rfl, by decide, fun cut S1 r1 r2 r3 => ?_⟩
    walk_at "w"
    walk_at "g"
    refine And.intro ⟨by omega, by omega⟩ ?_
    refine forR (fun i Γ => ∃ (out : List Str) (b c : Option B) (S : Sto), Γ = ⟨[bS, bi m, bs az, ol (wl.map D.str), bi style, bs head, bi cut, ol (out.map D.str), b, c], some S⟩ ∧ out.length = i ∧ out.Nodup ∧ ∀ w ∈ out, IsNm w) ?_ ?_ _ ⟨[], _, _, _, rfl, rfl, List.nodup_nil, fun w hw => absurd hw List.not_mem_nil⟩
    · rintro Γ ⟨out, b, c, S, rfl, e1, e2, e3⟩
      walk_at "w"
      refine ⟨_, rfl, by rw [List.length_map]; omega, fun ys S' hp => ?_⟩
      obtain ⟨ws', rfl, hq⟩ := perm_strs hp
      exact h ws' S' (by rw [hq.length_eq]; omega) (hq.nodup_iff.mpr e2) fun w hw => e3 w (hq.mem_iff.mp hw)
    · rintro i Γ N hi ⟨out, b, c, S, rfl, e1, e2, e3⟩ hN
      refine nm0 hl hw ⟨by omega, by omega⟩ hh (by omega) (fun w t S h1 h2 => hN _ ⟨out ++ [w], _, _, S, rfl, ?_, ?_, ?_⟩) _ S
      · rw [List.length_append, e1]; rfl
      · exact List.nodup_append.mpr ⟨e2, List.nodup_cons.mpr ⟨List.not_mem_nil, List.nodup_nil⟩, fun a ha b hb e => h2 (by rw [List.mem_singleton.mp hb] at e; rw [← e]; exact ha)⟩
      · intro x hx
        rcases List.mem_append.mp hx with hx | hx
        · exact e3 x hx
        · rw [List.mem_singleton.mp hx]; exact h1
  refine ⟨fun h2 => ?_, fun h2 => ?_⟩
  · walk_at "w"
    refine ⟨rfl, fun w S2 hw => ?_⟩
    walk_at "w"
    walk_at "g"
    refine ⟨_, rfl, by decide, fun q S3 q1 q2 q3 => ?_⟩
    walk_at "w"
    have q2 := q2 (by decide)
    have hwl := hw.len
    have e0 : ("" : Str).length = 0 := by decide +kernel
    have e11 : ("abcdefghijk" : Str).length = 11 := by decide +kernel
    obtain ⟨t, ht1, ht2⟩ : ∃ t : Str, atI [D.str "", D.str "abcdefghijk"] q = some (.str t) ∧ t.length ≤ 11 := by
      have : q = 0 ∨ q = 1 := by omega
      rcases this with rfl | rfl
      · exact ⟨_, rfl, by rw [e0]; decide⟩
      · exact ⟨_, rfl, by rw [e11]; decide⟩
    refine ⟨_, ht1, ?_⟩
    walk_at "w"
    refine And.intro (sle (by omega)) ?_
    refine loop _ _ ?_
    rw [str_len, str_app, List.length_append, ← str_len, ← str_len]
    omega
  · exact loop _ _ (by show (1 : Nat) ≤ 30; decide)

/-! ### same -/
def m_law_is_number : MP := fun ds k => ∃ a : D, ds = [a] ∧ a.plain = true ∧ ∀ b : Bool, (b = true ↔ ∃ i, a = .int i) → k (.fro (.bl b))
theorem len_law_is_number : ∀ ds κ, m_law_is_number ds κ → ds.length = 1 := by rintro _ _ ⟨_, rfl, _⟩; rfl
theorem mono_law_is_number : ∀ ds k k', (∀ b, k b → k' b) → m_law_is_number ds k → m_law_is_number ds k' := fun _ _ _ f ⟨m, e, h0, h⟩ => ⟨m, e, h0, fun r a => f _ (h r a)⟩
def N_law_is_number : List Str := ["_law_thing"]
def T_law_is_number_0_0 : DS :=
    (dRet (dAndV (dFz (dIsa .int (dVarQ 0))) (dNotV (dFz (dIsa .bool (dVarQ 0))))))
abbrev T_law_is_number : DS := T_law_is_number_0_0
theorem rd_law_is_number : ∀ ds κ, m_law_is_number ds κ → T_law_is_number ⟨fun _ => κ (.fro .non), rtP κ, fun _ => False, fun _ => False, fun _ _ => False⟩ ⟨startD N_law_is_number ds, none⟩ := by
  rintro ds κ ⟨a, rfl, hp, h⟩
  have ht : (∃ i, a = .int i) → κ (.fro (.bl true)) := fun z => h true ⟨fun _ => z, fun _ => rfl⟩
  have hf : (¬ ∃ i, a = .int i) → κ (.fro (.bl false)) := fun z => h false ⟨fun z => (nomatch z), fun q => absurd q z⟩
  cases a <;> first | (cases hp; done) | skip
  all_goals
    walk_at "w"
    walk_at "g"
  all_goals first | exact hf (fun ⟨_, e⟩ => nomatch e) | exact ht ⟨_, rfl⟩
/-- plain data at most n deep -/
def Dn : Nat → D → Prop
  | _, .non => True
  | _, .bl _ => True
  | _, .int _ => True
  | _, .str _ => True
  | n + 1, .lst ds => ds.length < 100000 ∧ ∀ x ∈ ds, Dn n x
  | n + 1, .tup ds => ds.length < 100000 ∧ ∀ x ∈ ds, Dn n x
  | _, _ => False
def m_same (n : Nat) : MP := fun ds k => ∃ a d : D, ds = [a, d] ∧ Dn n a ∧ Dn n d ∧ ∀ b : Bool, (b = true ↔ a = d) → k (.fro (.bl b))
theorem len_same {n : Nat} : ∀ ds κ, m_same n ds κ → ds.length = 2 := by rintro _ _ ⟨_, _, rfl, _⟩; rfl
theorem mono_same {n : Nat} : ∀ ds k k', (∀ b, k b → k' b) → m_same n ds k → m_same n ds k' := fun _ _ _ f ⟨a, d, e, h0, h1, h⟩ => ⟨a, d, e, h0, h1, fun r a => f _ (h r a)⟩
def N_law_same : List Str := ["_law_actual", "_law_due", "_law_key", "_law_k"]
def T_law_same_0_11 (mR : MP) : DS :=
    (dRet (dUp (dC (.bl true))))
def T_law_same_2_0 (mR : MP) : DS :=
    (dRet (dUp (dC (.bl false))))
def T_law_same_1_0 (mR : MP) : DS :=
    (dIf (dNot (dTest (dCall mR [] (dCons (dFz (dOp ixD (dVarQ 0) (dVarQ 3))) (dCons (dFz (dOp ixD (dVarQ 1) (dVarQ 3))) dNil)))))
    (T_law_same_2_0 mR)
    dNext)
def T_law_same_0_10 (mR : MP) : DS :=
    dSeq (dFor (dIR1 (dFz (dCl lenD (dCons (dVarQ 1) dNil)))) (dGN 3)
    (T_law_same_1_0 mR))
    (T_law_same_0_11 mR)
def T_law_same_3_0 (mR : MP) : DS :=
    (dRet (dUp (dC (.bl false))))
def T_law_same_0_9 (mR : MP) : DS :=
    dSeq (dIf (dTest (dOp (eqD true) (dFz (dCl lenD (dCons (dVarQ 0) dNil))) (dFz (dCl lenD (dCons (dVarQ 1) dNil)))))
    (T_law_same_3_0 mR)
    dNext)
    (T_law_same_0_10 mR)
def T_law_same_4_0 (mR : MP) : DS :=
    (dRet (dOp (isD false) (dFz (dOp (eqD false) (dVarQ 0) (dVarQ 1))) (dC (.bl true))))
def T_law_same_0_8 (mR : MP) : DS :=
    dSeq (dIf (dNot (dTest (dIsa2 .lst .tup (dVarQ 1))))
    (T_law_same_4_0 mR)
    dNext)
    (T_law_same_0_9 mR)
def T_law_same_5_0 (mR : MP) : DS :=
    (dRet (dUp (dC (.bl false))))
def T_law_same_0_7 (mR : MP) : DS :=
    dSeq (dIf (dAnd (dTest (dIsa .tup (dVarQ 1))) (dNot (dTest (dIsa .tup (dVarQ 0)))))
    (T_law_same_5_0 mR)
    dNext)
    (T_law_same_0_8 mR)
def T_law_same_6_0 (mR : MP) : DS :=
    (dRet (dUp (dC (.bl false))))
def T_law_same_0_6 (mR : MP) : DS :=
    dSeq (dIf (dAnd (dTest (dIsa .lst (dVarQ 1))) (dNot (dTest (dIsa .lst (dVarQ 0)))))
    (T_law_same_6_0 mR)
    dNext)
    (T_law_same_0_7 mR)
def T_law_same_0_5 (mR : MP) : DS :=
    dSeq (dIf (dTest (dIsa .dic (dVarQ 1)))
    dNever
    dNext)
    (T_law_same_0_6 mR)
def T_law_same_7_0 (mR : MP) : DS :=
    (dRet (dAndV (dFz (dIsa .str (dVarQ 0))) (dOp (eqD false) (dVarQ 0) (dVarQ 1))))
def T_law_same_0_4 (mR : MP) : DS :=
    dSeq (dIf (dTest (dIsa .str (dVarQ 1)))
    (T_law_same_7_0 mR)
    dNext)
    (T_law_same_0_5 mR)
def T_law_same_8_0 (mR : MP) : DS :=
    (dRet (dAndV (dFz (dCall m_law_is_number [] (dCons (dVar 0) dNil))) (dOp (eqD false) (dVarQ 0) (dVarQ 1))))
def T_law_same_0_3 (mR : MP) : DS :=
    dSeq (dIf (dTest (dIsa .int (dVarQ 1)))
    (T_law_same_8_0 mR)
    dNext)
    (T_law_same_0_4 mR)
def T_law_same_9_0 (mR : MP) : DS :=
    (dRet (dOp (isD false) (dVarQ 0) (dC (.bl false))))
def T_law_same_0_2 (mR : MP) : DS :=
    dSeq (dIf (dTest (dOp (isD false) (dVarQ 1) (dC (.bl false))))
    (T_law_same_9_0 mR)
    dNext)
    (T_law_same_0_3 mR)
def T_law_same_10_0 (mR : MP) : DS :=
    (dRet (dOp (isD false) (dVarQ 0) (dC (.bl true))))
def T_law_same_0_1 (mR : MP) : DS :=
    dSeq (dIf (dTest (dOp (isD false) (dVarQ 1) (dC (.bl true))))
    (T_law_same_10_0 mR)
    dNext)
    (T_law_same_0_2 mR)
def T_law_same_11_0 (mR : MP) : DS :=
    (dRet (dOp (isD false) (dVarQ 0) (dC .non)))
def T_law_same_0_0 (mR : MP) : DS :=
    dSeq (dIf (dTest (dOp (isD false) (dVarQ 1) (dC .non)))
    (T_law_same_11_0 mR)
    dNext)
    (T_law_same_0_1 mR)
abbrev T_law_same (mR : MP) : DS := (T_law_same_0_0 mR)
theorem Dn.plain {n : Nat} {a : D} (h : Dn n a) : a.plain = true := by
  cases a <;> first | rfl | (cases n <;> exact h.elim)

theorem isC_iff_non (a : D) : isC a .non = true ↔ a = .non := by cases a <;> simp [isC]
theorem isC_iff_bl (a : D) (c : Bool) : isC a (.bl c) = true ↔ a = .bl c := by cases a <;> simp [isC]
theorem rd_same (n : Nat) (mR : MP) (hR : ∀ i, n = i + 1 → ∀ ds κ, m_same i ds κ → mR ds κ) : ∀ ds κ, m_same n ds κ → T_law_same mR ⟨fun _ => κ (.fro .non), rtP κ, fun _ => False, fun _ => False, fun _ _ => False⟩ ⟨startD N_law_same ds, none⟩ := by
  rintro ds κ ⟨a, d, rfl, ha, hd, h⟩
  have hap := ha.plain
  have hff : a ≠ d → κ (.fro (.bl false)) := fun z => h false ⟨fun z => (nomatch z), fun q => absurd q z⟩
  -- two rows of the same length
  have rows : ∀ (as ds : List D) (i : Nat), n = i + 1 → (∀ x ∈ as, Dn i x) → (∀ x ∈ ds, Dn i x) → (∀ b : Bool, (b = true ↔ as = ds) → κ (.fro (.bl b))) → as.length = ds.length → ds.length < 100000 →
      (a = .lst as ∧ d = .lst ds ∨ a = .tup as ∧ d = .tup ds) → T_law_same_0_10 mR (En0 κ) ⟨[some (.fro a), some (.fro d), none, none], none⟩ := by
    intro as ds i hi h1 h2 h3 h4 h5 hc
    have body : ∀ (G : DG) (Tb : DS), (∀ (j : Nat) (b : Option B) (De : En) (x y : D), as[j]? = some x → ds[j]? = some y → (∀ c : Bool, (c = true ↔ x = y) → (c = true → De.nx ⟨[some (.fro a), some (.fro d), none, bi (0 + (j : Nat))], none⟩) ∧ (c = false → De.rt (.fro (.bl false)) none)) →
        G (.int (0 + (j : Nat))) ⟨[some (.fro a), some (.fro d), none, b], none⟩ fun Γ1 => Tb De Γ1) →
        forGo G Tb { nx := T_law_same_0_11 mR (En0 κ), rt := (En0 κ).rt, bk := (En0 κ).bk, ct := (En0 κ).ct, ex := (En0 κ).ex } (rngD 0 ds.length) ⟨[some (.fro a), some (.fro d), none, none], none⟩ := by
      intro G Tb hb
      refine forR (fun j Γ => ∃ b, Γ = ⟨[some (.fro a), some (.fro d), none, b], none⟩ ∧ ∀ q x y, q < j → as[q]? = some x → ds[q]? = some y → x = y) ?_ ?_ _ ⟨_, rfl, fun q x y hq => absurd hq (Nat.not_lt_zero _)⟩
      · rintro Γ ⟨b, rfl, hq⟩
        walk_at "w"
        refine h3 true ⟨fun _ => ?_, fun _ => rfl⟩
        refine List.ext_getElem h4 fun q g1 g2 => hq q _ _ g2 (List.getElem?_eq_getElem g1) (List.getElem?_eq_getElem g2)
      · rintro j Γ N hj ⟨b, rfl, hq⟩ hN
        refine hb j b _ as[j] ds[j] (List.getElem?_eq_getElem (by omega)) (List.getElem?_eq_getElem hj) fun c hc => ⟨fun e => hN _ ⟨_, rfl, fun q x y hqj e1 e2 => ?_⟩, fun e => ?_⟩
        · by_cases hqe : q = j
          · subst hqe
            rw [List.getElem?_eq_getElem (by omega)] at e1
            rw [List.getElem?_eq_getElem hj] at e2
            rw [← Option.some.inj e1, ← Option.some.inj e2]
            exact hc.mp e
          · exact hq q x y (by omega) e1 e2
        · refine h3 false ⟨fun z => (nomatch z), fun z => ?_⟩
          subst z
          rw [e] at hc
          exact absurd (hc.mpr rfl) (fun z => nomatch z)
    rcases hc with ⟨rfl, rfl⟩ | ⟨rfl, rfl⟩
    all_goals
      walk_at "w"
      refine And.intro ⟨by omega, by omega⟩ ?_
      refine body _ _ fun j b De x y e1 e2 hk => ?_
      walk_at "w"
      have e3 : (0 : Int) + (j : Nat) = (j : Int) := Int.zero_add _
      refine ⟨x, by show atI _ (0 + (j : Nat) : Int) = _; rw [e3]; exact atI_nat e1, ?_⟩
      walk_at "w"
      refine ⟨y, by show atI _ (0 + (j : Nat) : Int) = _; rw [e3]; exact atI_nat e2, ?_⟩
      walk_at "w"
      refine hR i hi _ _ ⟨x, y, rfl, h1 x (List.mem_of_getElem? e1), h2 y (List.mem_of_getElem? e2), fun c hc => ?_⟩
      have := hk c hc
      cases c with
      | true => exact ⟨fun z => (nomatch z), fun _ => this.1 rfl⟩
      | false => exact ⟨fun _ => this.2 rfl, fun z => (nomatch z)⟩
  cases d with
  | non =>
    walk_at "w"
    walk_at "g"
    exact h _ (isC_iff_non a)
  | bl c =>
    cases c
    all_goals
      walk_at "w"
      walk_at "g"
      exact h _ (isC_iff_bl a _)
  | int i =>
    walk_at "w"
    walk_at "g"
    refine ⟨a, rfl, hap, fun b hb => ?_⟩
    cases b with
    | true =>
      have hb1 : ∃ j, a = .int j := hb.mp rfl
      obtain ⟨j, rfl⟩ := hb1
      walk_at "w"
      walk_at "g"
      exact h _ (by simp)
    | false =>
      walk_at "w"
      walk_at "g"
      exact hff fun e => (nomatch hb.mpr ⟨i, e⟩ : False)
  | str s =>
    cases a <;> first | (cases hap; done) | skip
    all_goals
      walk_at "w"
      walk_at "g"
    all_goals first | exact hff (fun e => nomatch e) | exact h _ (by simp)
  | lst ds =>
    cases n with
    | zero => exact hd.elim
    | succ i =>
      cases a <;> first | (cases hap; done) | skip
      case lst as =>
        walk_at "w"
        walk_at "g"
        refine ⟨fun z => ?_, fun z => ?_⟩
        · walk_at "w"
          exact hff fun e => by cases e; simp at z
        · have z : (as.length : Int) = ds.length := by simpa using z
          exact rows as ds i rfl ha.2 hd.2 (fun b hb => h b (by rw [hb]; simp)) (by omega) hd.1 (.inl ⟨rfl, rfl⟩)
      all_goals
        walk_at "w"
        walk_at "g"
        exact hff (fun e => nomatch e)
  | tup ds =>
    cases n with
    | zero => exact hd.elim
    | succ i =>
      cases a <;> first | (cases hap; done) | skip
      case tup as =>
        walk_at "w"
        walk_at "g"
        refine ⟨fun z => ?_, fun z => ?_⟩
        · walk_at "w"
          exact hff fun e => by cases e; simp at z
        · have z : (as.length : Int) = ds.length := by simpa using z
          exact rows as ds i rfl ha.2 hd.2 (fun b hb => h b (by rw [hb]; simp)) (by omega) hd.1 (.inr ⟨rfl, rfl⟩)
      all_goals
        walk_at "w"
        walk_at "g"
        exact hff (fun e => nomatch e)
  | dic _ => cases n <;> exact hd.elim
  | ins _ _ => cases n <;> exact hd.elim
  | scr _ => cases n <;> exact hd.elim
  | ptr _ => cases n <;> exact hd.elim
  | exc _ _ _ _ => cases n <;> exact hd.elim
abbrev m_law_same : MP := m_same 5

theorem same_yes {a d : D} {P : Bool → Prop} (e : a = d) (h : Dn 5 a) (k : P true) : ∃ a' d' : D, [a, d] = [a', d'] ∧ Dn 5 a' ∧ Dn 5 d' ∧ ∀ b : Bool, (b = true ↔ a' = d') → P b := by
  subst e
  exact ⟨a, a, rfl, h, h, fun b hb => by rw [hb.mpr rfl]; exact k⟩

/-! ### check_number -/
abbrev flBN : List (Str × Nat) := [("value", 1), ("low", 2), ("high", 3)]
def NumD (v : D) : Prop := (∃ b, v = .bl b) ∨ ∃ i : Int, v = .int i ∧ i.natAbs.log2 < 1920
def InR (v : D) (lo hi : Int) : Prop := ∃ i : Int, v = .int i ∧ lo ≤ i ∧ i ≤ hi
def m_check_number : MX := fun ds k e => ∃ (v : D) (lo hi : Int), ds = [v, .int lo, .int hi] ∧ NumD v ∧ lo.natAbs.log2 < 1920 ∧ hi.natAbs.log2 < 1920 ∧ (InR v lo hi → k (.fro v)) ∧ (¬ InR v lo hi → e ⟨"BadNumber", flD [v, .int lo, .int hi] flBN⟩)
theorem len_check_number : ∀ ds κ ε, m_check_number ds κ ε → ds.length = 3 := by rintro _ _ _ ⟨_, _, _, rfl, _⟩; rfl
theorem mono_check_number : ∀ ds k k' e e', (∀ b, k b → k' b) → (∀ x, e x → e' x) → m_check_number ds k e → m_check_number ds k' e' := fun _ _ _ _ _ f g ⟨v, l, h, e, h0, h1, h2, h3, h4⟩ => ⟨v, l, h, e, h0, h1, h2, fun z => f _ (h3 z), fun z => g _ (h4 z)⟩
def N_check_number : List Str := ["value", "low", "high"]
def T_check_number_0_1 : DS :=
    (dRet (dMove 0))
def T_check_number_1_0 : DS :=
    (dRaise "BadNumber" [("value", 1), ("low", 2), ("high", 3)] 3 [1, 2, 3] (dCons (dVar 0) (dCons (dVar 1) (dCons (dVar 2) dNil))))
def T_check_number_0_0 : DS :=
    dSeq (dIf (dOr (dTest (dIsa .bool (dVarQ 0))) (dOr (dTest (dOp ltD (dVarQ 0) (dVarQ 1))) (dTest (dOp gtD (dVarQ 0) (dVarQ 2)))))
    T_check_number_1_0
    dNext)
    T_check_number_0_1
abbrev T_check_number : DS := T_check_number_0_0
theorem rd_check_number : ∀ ds κ ε, m_check_number ds κ ε → T_check_number ⟨fun _ => κ (.fro .non), rtP κ, fun _ => False, fun _ => False, fun x _ => ε x⟩ ⟨startD N_check_number ds, none⟩ := by
  rintro ds κ ε ⟨v, lo, hi, rfl, hv, h1, h2, h3, h4⟩
  have ra : ¬ InR v lo hi → T_check_number_1_0 ⟨fun Γ' => T_check_number_0_1 ⟨fun _ => κ (.fro .non), rtP κ, fun _ => False, fun _ => False, fun x _ => ε x⟩ Γ', rtP κ, fun _ => False, fun _ => False, fun x _ => ε x⟩ ⟨startD N_check_number [v, .int lo, .int hi], none⟩ := fun hn => by
    walk_at "w"
    refine ⟨rfl, by decide, ⟨?_, h1, h2, trivial⟩, h4 hn⟩
    rcases hv with ⟨b, rfl⟩ | ⟨i, rfl, h⟩
    · exact trivial
    · exact h
  rcases hv with ⟨b, rfl⟩ | ⟨i, rfl, h⟩
  · walk_at "w"
    walk_at "g"
    exact ra fun ⟨i, e, _⟩ => nomatch e
  · walk_at "w"
    walk_at "g"
    refine ⟨fun z => ?_, fun z => ?_⟩
    · have z : i < lo := of_decide_eq_true z
      walk_at "w"
      walk_at "g"
      exact ra fun ⟨j, e, h5, h6⟩ => by cases e; omega
    · have z : ¬ i < lo := of_decide_eq_false z
      walk_at "w"
      refine ⟨fun y => ?_, fun y => ?_⟩
      · have y : hi < i := of_decide_eq_true y
        exact ra fun ⟨j, e, h5, h6⟩ => by cases e; omega
      · have y : ¬ hi < i := of_decide_eq_false y
        exact h3 ⟨i, rfl, by omega, by omega⟩

/-! ### names -/
theorem lo26 : (("abcdefghijklmnopqrstuvwxyz" : Str)).cps.toList = (List.range 26).map (· + 97) := by decide +kernel
theorem lo26_mem (c : Nat) : c ∈ (("abcdefghijklmnopqrstuvwxyz" : Str)).cps.toList ↔ isLo c = true := by
  rw [lo26]
  simp only [List.mem_map, List.mem_range, isLo, Bool.and_eq_true, decide_eq_true_eq]
  constructor
  · rintro ⟨a, h, rfl⟩
    exact ⟨by omega, by omega⟩
  · rintro ⟨h1, h2⟩
    exact ⟨c - 97, by omega, by omega⟩
def m_is_name : MP := fun ds k => ∃ d : D, ds = [d] ∧ ((d = .non ∧ k (.fro (.bl false))) ∨ ∃ s : Str, d = .str s ∧ s.length ≤ 100000 ∧ ∀ b : Bool, (b = true ↔ IsNm s) → k (.fro (.bl b)))
theorem len_is_name : ∀ ds κ, m_is_name ds κ → ds.length = 1 := by rintro _ _ ⟨n, rfl, _⟩; rfl
theorem mono_is_name : ∀ ds k k', (∀ b, k b → k' b) → m_is_name ds k → m_is_name ds k' := fun _ _ _ f ⟨m, e, h⟩ => ⟨m, e, h.imp (fun ⟨a, b⟩ => ⟨a, f _ b⟩) fun ⟨s, a, b, h⟩ => ⟨s, a, b, fun r z => f _ (h r z)⟩⟩
theorem nm_iff {s : Str} {c : Nat} {l : List Nat} (e : s.cps.toList = c :: l) (hl : s.length ≤ 12) (hc : isLo c = true) : s.cps.toList.all isSg = true ↔ IsNm s := by
  rw [e, List.all_cons, Bool.and_eq_true, List.all_eq_true]
  rw [str_len, e, List.length_cons] at hl
  constructor
  · rintro ⟨_, h⟩
    exact ⟨c, l, e, hc, by omega, h⟩
  · rintro ⟨c', l', e', _, _, h⟩
    rw [e] at e'
    obtain ⟨rfl, rfl⟩ := List.cons.inj e'
    exact ⟨by rw [isSg, hc]; rfl, h⟩
def N_is_name : List Str := ["text", "sign"]
def T_is_name_0_3 : DS :=
    (dRet (dCl allD (dCons (dFz (dLc (dISq (dVar 0)) (dGN 1) dYes (dFz (dOrV (dFz (dOp (inD false) (dVarQ 1) (dC (.str "abcdefghijklmnopqrstuvwxyz")))) (dOp (inD false) (dVarQ 1) (dC (.str "0123456789"))))) [1])) dNil)))
def T_is_name_1_0 : DS :=
    (dRet (dUp (dC (.bl false))))
def T_is_name_0_2 : DS :=
    dSeq (dIf (dTest (dOp (inD true) (dFz (dOp ixD (dVarQ 0) (dC (.int 0)))) (dC (.str "abcdefghijklmnopqrstuvwxyz"))))
    T_is_name_1_0
    dNext)
    T_is_name_0_3
def T_is_name_2_0 : DS :=
    (dRet (dUp (dC (.bl false))))
def T_is_name_0_1 : DS :=
    dSeq (dIf (dOr (dTest (dOp ltD (dFz (dCl lenD (dCons (dVarQ 0) dNil))) (dC (.int 1)))) (dTest (dOp gtD (dFz (dCl lenD (dCons (dVarQ 0) dNil))) (dC (.int 12)))))
    T_is_name_2_0
    dNext)
    T_is_name_0_2
def T_is_name_3_0 : DS :=
    (dRet (dUp (dC (.bl false))))
def T_is_name_0_0 : DS :=
    dSeq (dIf (dNot (dTest (dIsa .str (dVarQ 0))))
    T_is_name_3_0
    dNext)
    T_is_name_0_1
abbrev T_is_name : DS := T_is_name_0_0
theorem rd_is_name : ∀ ds κ, m_is_name ds κ → T_is_name ⟨fun _ => κ (.fro .non), rtP κ, fun _ => False, fun _ => False, fun _ _ => False⟩ ⟨startD N_is_name ds, none⟩ := by
  rintro ds κ ⟨d, rfl, ⟨rfl, h⟩ | ⟨s, rfl, hl, h⟩⟩
  · walk_at "w"
    walk_at "g"
    exact h
  have hs := str_len s
  have bad : ¬ IsNm s → κ (.fro (.bl false)) := fun hn => h false ⟨(fun z => nomatch z), fun z => absurd z hn⟩
  walk_at "w"
  walk_at "g"
  refine And.intro (sle hl) ?_
  walk_at "w"
  refine ⟨fun h1 => ?_, fun h1 => ?_⟩
  · have h1 := of_decide_eq_true h1
    walk_at "w"
    walk_at "g"
    exact bad fun z => by have := z.len; omega
  have h1 := of_decide_eq_false h1
  walk_at "w"
  refine And.intro (sle hl) ?_
  walk_at "w"
  refine ⟨fun h2 => ?_, fun h2 => ?_⟩
  · have h2 := of_decide_eq_true h2
    walk_at "w"
    exact bad fun z => by have := z.len; omega
  have h2 := of_decide_eq_false h2
  obtain ⟨c, l, e⟩ : ∃ c l, s.cps.toList = c :: l := by
    cases e : s.cps.toList with
    | nil => rw [e] at hs; simp at hs; omega
    | cons c l => exact ⟨c, l, rfl⟩
  walk_at "w"
  refine And.intro (sle hl) ⟨c, by rw [e]; exact atI_nat (j := 0) rfl, ?_⟩
  walk_at "w"
  refine ⟨fun h3 => ?_, fun h3 => ?_⟩
  · have h3 : (!strIn ⟨#[c]⟩ ("abcdefghijklmnopqrstuvwxyz" : Str)) = true := h3
    rw [sign_in, Bool.not_eq_true', decide_eq_false_iff_not, lo26_mem] at h3
    walk_at "w"
    refine bad ?_
    rintro ⟨c', l', e', hc, _⟩
    rw [e] at e'
    obtain ⟨rfl, rfl⟩ := List.cons.inj e'
    exact h3 hc
  have h3 : (!strIn ⟨#[c]⟩ ("abcdefghijklmnopqrstuvwxyz" : Str)) = false := h3
  rw [sign_in, Bool.not_eq_false', decide_eq_true_eq, lo26_mem] at h3
  walk_at "w"
  refine lcL _ (fun i acc S => S = none ∧ acc = ((s.cps.toList.take i).map fun c => D.bl (isSg c))) ?_ ?_ _ ⟨rfl, rfl⟩
  · rintro acc S ⟨rfl, rfl⟩
    rw [List.length_map, List.take_length]
    walk_at "w"
    refine ⟨s.cps.toList.map isSg, by rw [List.map_map]; rfl, ?_⟩
    refine h _ ?_
    rw [List.all_map]
    exact nm_iff e (by omega) h3
  · rintro i d acc S N hd ⟨rfl, rfl⟩ hN
    rw [List.getElem?_map] at hd
    cases e2 : s.cps.toList[i]? with
    | none => rw [e2] at hd; cases hd
    | some x =>
      rw [e2] at hd
      have hd := Option.some.inj hd
      subst hd
      have hi := (List.getElem?_eq_some_iff.mp e2).1
      have fin : ∀ b : Bool, b = isSg x → (((s.cps.toList.take i).map fun c => D.bl (isSg c)).length < sizeLine ∧ N (((s.cps.toList.take i).map fun c => D.bl (isSg c)) ++ [D.bl b]) none) := fun b hb => by
        refine ⟨slt (by rw [List.length_map, List.length_take]; omega), hN _ _ ⟨rfl, ?_⟩⟩
        rw [List.take_add_one, e2, List.map_append, hb]
        rfl
      walk_at "w"
      walk_at "g"
      refine ⟨fun h4 => ?_, fun h4 => ?_⟩
      · have h4 : strIn ⟨#[x]⟩ ("abcdefghijklmnopqrstuvwxyz" : Str) = true := h4
        have h5 := h4
        rw [sign_in, decide_eq_true_eq, lo26_mem] at h5
        walk_at "w"
        refine fin _ ?_
        show strIn ⟨#[x]⟩ ("abcdefghijklmnopqrstuvwxyz" : Str) = _
        rw [h4, isSg, h5]
        rfl
      · have h4 : strIn ⟨#[x]⟩ ("abcdefghijklmnopqrstuvwxyz" : Str) = false := h4
        rw [sign_in, decide_eq_false_iff_not, lo26_mem] at h4
        walk_at "w"
        refine fin _ ?_
        show strIn ⟨#[x]⟩ ("0123456789" : Str) = _
        rw [sign_in, Bool.eq_iff_iff, decide_eq_true_eq, dg10_mem]
        simp only [isSg, Bool.or_eq_true, Bool.and_eq_true, decide_eq_true_eq]
        constructor
        · exact fun z => .inr z
        · exact fun z => z.elim (fun q => absurd q h4) id
/-- all signs are small -/
def Lo8 (s : Str) : Prop := ∀ c ∈ s.cps.toList, c < 16 ^ 8
/-- a text of bounded length and signs -/
def Tb (s : Str) : Prop := s.length ≤ 1000 ∧ Lo8 s
theorem Tb.le {s : Str} (h : Tb s) : s.length ≤ 100000 := Nat.le_trans h.1 (by decide)
theorem Tb.txt {s : Str} (h : Tb s) : (D.str s).txt := ⟨Nat.le_trans h.1 (by decide), h.2⟩
def m_check_name : MX := fun ds k e => ∃ s : Str, ds = [.str s] ∧ Tb s ∧ (IsNm s → k (.fro (.str s))) ∧ (¬ IsNm s → e ⟨"BadName", flD [.str s] [("value", 1)]⟩)
theorem len_check_name : ∀ ds κ ε, m_check_name ds κ ε → ds.length = 1 := by rintro _ _ _ ⟨_, rfl, _⟩; rfl
theorem mono_check_name : ∀ ds k k' e e', (∀ b, k b → k' b) → (∀ x, e x → e' x) → m_check_name ds k e → m_check_name ds k' e' := fun _ _ _ _ _ f g ⟨s, e, h0, h1, h2⟩ => ⟨s, e, h0, fun z => f _ (h1 z), fun z => g _ (h2 z)⟩
def N_check_name : List Str := ["text"]
def T_check_name_0_1 : DS :=
    (dRet (dMove 0))
def T_check_name_1_0 : DS :=
    (dRaise "BadName" [("value", 1)] 1 [1] (dCons (dVar 0) dNil))
def T_check_name_0_0 : DS :=
    dSeq (dIf (dNot (dTest (dCall m_is_name [] (dCons (dVar 0) dNil))))
    T_check_name_1_0
    dNext)
    T_check_name_0_1
abbrev T_check_name : DS := T_check_name_0_0
theorem rd_check_name : ∀ ds κ ε, m_check_name ds κ ε → T_check_name ⟨fun _ => κ (.fro .non), rtP κ, fun _ => False, fun _ => False, fun x _ => ε x⟩ ⟨startD N_check_name ds, none⟩ := by
  rintro ds κ ε ⟨s, rfl, h0, h1, h2⟩
  walk_at "w"
  refine ⟨_, rfl, .inr ⟨s, rfl, h0.le, fun b hb => ?_⟩⟩
  cases b with
  | true =>
    walk_at "w"
    walk_at "g"
    exact h1 (hb.mp rfl)
  | false =>
    walk_at "w"
    walk_at "g"
    refine ⟨rfl, by decide, ⟨h0.txt, trivial⟩, h2 fun z => nomatch hb.mpr z⟩

/-! ### sorting of texts and of rows with unlike first texts -/
def leS (x y : Str) : Bool := decide (x.cps.toList ≤ y.cps.toList)
theorem leS_total (x y : Str) : (leS x y || leS y x) = true := by
  unfold leS
  rw [Bool.or_eq_true, decide_eq_true_eq, decide_eq_true_eq]
  exact List.le_total _ _
theorem leS_refl (x : Str) : leS x x = true := by
  have := leS_total x x
  rwa [Bool.or_self] at this
theorem leS_trans (x y z : Str) (h : leS x y = true) (g : leS y z = true) : leS x z = true := by
  unfold leS at *
  rw [decide_eq_true_eq] at *
  exact List.le_trans h g
theorem leS_anti {x y : Str} (h : leS x y = true) (g : leS y x = true) : x = y := by
  unfold leS at *
  rw [decide_eq_true_eq] at *
  exact PySem.W.str_of_cps (List.le_antisymm h g)
theorem leS_lt {x y : Str} : leS x y = !ltS y x := by
  unfold leS ltS
  by_cases h : y.cps.toList < x.cps.toList
  · have h2 : ¬ x.cps.toList ≤ y.cps.toList := fun q => List.not_lt.mpr q h
    simp [h, h2]
  · have h2 : x.cps.toList ≤ y.cps.toList := List.not_lt.mp h
    simp [h, h2]
def srtS (ws : List Str) : List Str := ws.mergeSort leS
/-- rows by their first texts -/
def srtR {α : Type} (key : α → Str) (bs : List α) : List α := bs.mergeSort fun a b => leS (key a) (key b)
theorem srtS_perm (ws : List Str) : (srtS ws).Perm ws := List.mergeSort_perm ..
theorem srtR_perm {α : Type} (key : α → Str) (bs : List α) : (srtR key bs).Perm bs := List.mergeSort_perm ..
theorem srtS_len (ws : List Str) : (srtS ws).length = ws.length := (srtS_perm ws).length_eq
theorem srtR_len {α : Type} (key : α → Str) (bs : List α) : (srtR key bs).length = bs.length := (srtR_perm key bs).length_eq
theorem srtS_mem {ws : List Str} {x : Str} : x ∈ srtS ws ↔ x ∈ ws := (srtS_perm ws).mem_iff
theorem srtR_mem {α : Type} {key : α → Str} {bs : List α} {x : α} : x ∈ srtR key bs ↔ x ∈ bs := (srtR_perm key bs).mem_iff
theorem srtS_pair (ws : List Str) : (srtS ws).Pairwise fun a b => leS a b = true := List.pairwise_mergeSort leS_trans leS_total ws
theorem srt_of {ys ws : List Str} (p : ys.Perm ws) (s : ys.Pairwise fun a b => leS a b = true) : ys = srtS ws :=
  List.Perm.eq_of_pairwise (fun a b _ _ => leS_anti) s (srtS_pair ws) (p.trans (srtS_perm ws).symm)
theorem rising_pair : ∀ (l : List Str) (p : Str), risingS p l = true → (p :: l).Pairwise fun a b => leS a b = true
  | [], p, _ => List.pairwise_singleton ..
  | x :: r, p, h => by
    have h : (!ltCps x.cps.toList p.cps.toList && risingS x r) = true := h
    rw [Bool.and_eq_true, ltCps_eq] at h
    have ih := rising_pair r x h.2
    have hp : leS p x = true := by rw [leS_lt]; exact h.1
    refine List.pairwise_cons.mpr ⟨fun y hy => ?_, ih⟩
    rcases List.mem_cons.mp hy with rfl | hy
    · exact hp
    · exact leS_trans _ _ _ hp ((List.pairwise_cons.mp ih).1 y hy)
theorem sorted_pair {ys : List Str} (h : sortedS ys = true) : ys.Pairwise fun a b => leS a b = true := by
  cases ys with
  | nil => exact .nil
  | cons x r => exact rising_pair r x h
theorem srt_uniq {ys ws : List Str} (p : ys.Perm ws) (s : sortedS ys = true) : ys = srtS ws := srt_of p (sorted_pair s)
theorem srtS_of_perm {xs ys : List Str} (p : xs.Perm ys) : srtS xs = srtS ys := srt_of ((srtS_perm xs).trans p) (srtS_pair xs)
theorem srtS_idem (ws : List Str) : srtS (srtS ws) = srtS ws := srtS_of_perm (srtS_perm ws)
theorem srtR_key {α : Type} (key : α → Str) (bs : List α) : (srtR key bs).map key = srtS (bs.map key) := List.map_mergeSort fun _ _ _ _ => rfl
theorem srtR_map {α β : Type} (f : α → β) {ka : α → Str} {kb : β → Str} (h : ∀ a, kb (f a) = ka a) (bs : List α) : (srtR ka bs).map f = srtR kb (bs.map f) := List.map_mergeSort fun a _ b _ => by rw [h, h]
/-- a list whose keys are unlike is told by its keys -/
theorem nd_inj {α : Type} {key : α → Str} : ∀ {bs : List α}, (bs.map key).Nodup → ∀ a ∈ bs, ∀ b ∈ bs, key a = key b → a = b
  | [], _, a, ha, _, _, _ => nomatch ha
  | x :: r, nd, a, ha, b, hb, e => by
    rw [List.map_cons, List.nodup_cons] at nd
    rcases List.mem_cons.mp ha with h1 | h1
    · rcases List.mem_cons.mp hb with h2 | h2
      · rw [h1, h2]
      · refine absurd ?_ nd.1
        rw [← h1, e]
        exact List.mem_map_of_mem h2
    · rcases List.mem_cons.mp hb with h2 | h2
      · refine absurd ?_ nd.1
        rw [← h2, ← e]
        exact List.mem_map_of_mem h1
      · exact nd_inj nd.2 a h1 b h2 e
theorem srtR_pair {α : Type} (key : α → Str) (bs : List α) : (srtR key bs).Pairwise fun a b => leS (key a) (key b) = true :=
  List.pairwise_mergeSort (le := fun a b => leS (key a) (key b)) (fun a b c => leS_trans (key a) (key b) (key c)) (fun a b => leS_total (key a) (key b)) bs
theorem srtR_of_perm {α : Type} {key : α → Str} {xs ys : List α} (nd : (ys.map key).Nodup) (p : xs.Perm ys) : srtR key xs = srtR key ys := by
  refine List.Perm.eq_of_pairwise (le := fun a b => leS (key a) (key b) = true) (fun a b ha hb h1 h2 => ?_) (srtR_pair key xs) (srtR_pair key ys)
    ((srtR_perm key xs).trans (p.trans (srtR_perm key ys).symm))
  exact nd_inj nd a (p.mem_iff.mp (srtR_mem.mp ha)) b (srtR_mem.mp hb) (leS_anti h1 h2)
/-! sorted(..) over data -/
theorem srtB_str (x y : Str) : srtB (.str x) (.str y) = leS x y := by
  show (!PySem.W.dataLt (.str y) (.str x)) = _
  rw [PySem.W.dataLt_str, leS_lt]
  rfl
theorem dataLt_irr (x : PyData) : PySem.W.dataLt x x = false := lex_irrefl _
theorem srtB_refl (x : D) : srtB x x = true := by
  show (!PySem.W.dataLt x.py x.py) = true
  rw [dataLt_irr]
  rfl
theorem srtB_tup {x y : Str} {xs ys : List D} (h : x ≠ y) : srtB (.tup (.str x :: xs)) (.tup (.str y :: ys)) = leS x y := by
  have e : ((PyData.str y).eqv (.str x)) = false := by
    simp only [PyData.eqv, beq_eq_false_iff_ne, ne_eq]
    exact fun e => h e.symm
  show (!PySem.W.dataLt (.tuple (.str y :: pyL ys)) (.tuple (.str x :: pyL xs))) = _
  rw [PySem.W.dataLt_tuple, PySem.W.dataLt_all_no (by simp [PySem.W.alike]) e, PySem.W.dataLt_str, leS_lt]
  rfl
theorem srt_strs (ws : List Str) : (ws.map D.str).mergeSort srtB = (srtS ws).map D.str := (List.map_mergeSort fun a _ b _ => (srtB_str a b).symm).symm
theorem srt_rows {α : Type} {key : α → Str} {rest : α → List D} {bs : List α} (nd : (bs.map key).Nodup) : (bs.map fun a => D.tup (.str (key a) :: rest a)).mergeSort srtB = (srtR key bs).map fun a => D.tup (.str (key a) :: rest a) := by
  refine (List.map_mergeSort fun a ha b hb => ?_).symm
  by_cases e : key a = key b
  · have := nd_inj nd a ha b hb e
    subst this
    rw [srtB_refl, leS_refl]
  · rw [srtB_tup e]
def OkS (s : Str) : Prop := PyData.strOk s = true
theorem ok_strs {ws : List Str} (hw : ∀ w ∈ ws, OkS w) : SrtOk (ws.map D.str) := by
  have e : pyL (ws.map D.str) = ws.map PyData.str := by rw [pyL_map, List.map_map]; rfl
  refine ⟨?_, ?_, ?_, ?_⟩
  · rw [e]
    intro d hd d' hd'
    obtain ⟨a, _, rfl⟩ := List.mem_map.mp hd
    obtain ⟨b, _, rfl⟩ := List.mem_map.mp hd'
    simp [PySem.W.alike]
  · rw [e]
    refine .inr fun d hd => ?_
    obtain ⟨a, _, rfl⟩ := List.mem_map.mp hd
    exact ⟨(fun z => nomatch z), fun _ z => nomatch z⟩
  · rw [e]
    intro d hd
    obtain ⟨a, _, rfl⟩ := List.mem_map.mp hd
    simp [PyData.depth]
  · rw [e]
    clear e
    induction ws with
    | nil => simp [PyData.canLayAll0]
    | cons x r ih =>
      rw [List.map_cons, PyData.canLayAll0, ih fun w h => hw w (List.mem_cons_of_mem _ h)]
      have this : PyData.strOk x = true := hw x List.mem_cons_self
      simpa [PyData.canLay0] using this
/-- rows of scalars, place by place of one type -/
def flt1 : D → Option Nat
  | .str _ => some 0
  | .int _ => some 1
  | _ => none
def OkE : D → Prop
  | .str s => OkS s
  | .int _ => True
  | _ => False
theorem OkE.flt {x : D} (h : OkE x) : (flt1 x).isSome = true := by
  cases x <;> first | rfl | exact h.elim
theorem flt1_alike {x y : D} (hx : (flt1 x).isSome = true) (h : flt1 x = flt1 y) : PySem.W.alike x.py y.py = true := by
  cases x <;> cases y <;> simp [flt1, D.py, PySem.W.alike] at *
theorem alikeAll_of : ∀ {xs ys : List D}, (∀ x ∈ xs, (flt1 x).isSome = true) → xs.map flt1 = ys.map flt1 → PySem.W.alikeAll (pyL xs) (pyL ys) = true
  | [], [], _, _ => by simp [pyL, PySem.W.alikeAll]
  | [], _ :: _, _, e => nomatch e
  | _ :: _, [], _, e => nomatch e
  | x :: xs, y :: ys, h, e => by
    rw [List.map_cons, List.map_cons] at e
    obtain ⟨e1, e2⟩ := List.cons.inj e
    rw [pyL, pyL, PySem.W.alikeAll, flt1_alike (h x List.mem_cons_self) e1, alikeAll_of (fun z hz => h z (List.mem_cons_of_mem _ hz)) e2]
    rfl
theorem ok_rows {α : Type} {row : α → List D} {ty : List (Option Nat)} (ht : ∀ a, (row a).map flt1 = ty) (hne : ty ≠ []) {bs : List α} (hs : ∀ a ∈ bs, ∀ x ∈ row a, OkE x) : SrtOk (bs.map fun a => D.tup (row a)) := by
  have e : pyL (bs.map fun a => D.tup (row a)) = bs.map fun a => PyData.tuple (pyL (row a)) := by
    rw [pyL_map, List.map_map]
    refine List.map_congr_left fun a _ => ?_
    show D.py (.tup (row a)) = _
    rw [D.py]
  have dp : ∀ xs : List D, (∀ x ∈ xs, OkE x) → PyData.depthAll (pyL xs) ≤ 1 ∧ PyData.canLayAll0 (pyL xs) = true := fun xs => by
    induction xs with
    | nil => intro _; simp [pyL, PyData.depthAll, PyData.canLayAll0]
    | cons x r ih =>
      intro hx
      have i := ih fun z hz => hx z (List.mem_cons_of_mem _ hz)
      have h1 := hx x List.mem_cons_self
      rw [pyL, PyData.depthAll, PyData.canLayAll0, i.2]
      cases x <;> first | exact h1.elim | skip
      · refine ⟨?_, by simp [D.py, PyData.canLay0]⟩
        simp only [D.py, PyData.depth]
        omega
      · refine ⟨?_, ?_⟩
        · simp only [D.py, PyData.depth]
          omega
        · have h1 : PyData.strOk _ = true := h1
          simpa [D.py, PyData.canLay0] using h1
  refine ⟨?_, ?_, ?_, ?_⟩
  · rw [e]
    intro d hd d' hd'
    obtain ⟨a, ha, rfl⟩ := List.mem_map.mp hd
    obtain ⟨b, hb, rfl⟩ := List.mem_map.mp hd'
    rw [PySem.W.alike]
    exact alikeAll_of (fun x hx => (hs a ha x hx).flt) (by rw [ht, ht])
  · rw [e]
    refine .inl fun d hd => ?_
    obtain ⟨a, _, rfl⟩ := List.mem_map.mp hd
    cases q : row a with
    | nil =>
      have := ht a
      rw [q] at this
      exact absurd this.symm hne
    | cons x r => exact ⟨x.py, pyL r, by rw [pyL]⟩
  · rw [e]
    intro d hd
    obtain ⟨a, ha, rfl⟩ := List.mem_map.mp hd
    rw [PyData.depth]
    have := (dp _ (hs a ha)).1
    omega
  · rw [e]
    have : ∀ l : List PyData, (∀ d ∈ l, d.canLay0 = true) → PyData.canLayAll0 l = true := fun l => by
      induction l with
      | nil => intro _; simp [PyData.canLayAll0]
      | cons x r ih =>
        intro hl
        rw [PyData.canLayAll0, hl x List.mem_cons_self, ih fun d hd => hl d (List.mem_cons_of_mem _ hd)]
        rfl
    refine this _ fun d hd => ?_
    obtain ⟨a, ha, rfl⟩ := List.mem_map.mp hd
    rw [PyData.canLay0]
    exact (dp _ (hs a ha)).2

/-! ### what is due of a Deep's entries, or the first fault -/
abbrev Ex (α : Type) : Type := Except Xc α
def Rz {α : Type} (r : Ex α) (k : α → Prop) (e : Xc → Prop) : Prop := match r with
  | .ok a => k a
  | .error x => e x
theorem Rz.mono {α : Type} {r : Ex α} {k k' : α → Prop} {e e' : Xc → Prop} (h : Rz r k e) (f : ∀ a, r = .ok a → k a → k' a) (g : ∀ x, e x → e' x) : Rz r k' e' := by
  cases r with
  | ok a => exact f a rfl h
  | error x => exact g x h
theorem Rz_bind {α β : Type} {r : Ex α} {f : α → Ex β} {k : β → Prop} {e : Xc → Prop} : Rz (r.bind f) k e = Rz r (fun a => Rz (f a) k e) e := by
  cases r <;> rfl
def xNum (v : D) (lo hi : Int) : Xc := ⟨"BadNumber", flD [v, .int lo, .int hi] flBN⟩
def xName (s : Str) : Xc := ⟨"BadName", flD [.str s] [("value", 1)]⟩
def xTwice (kind s : Str) : Xc := ⟨"Twice", flD [.str kind, .str s] [("kind", 1), ("name", 2)]⟩
def xUnk (kind s : Str) : Xc := ⟨"Unknown", flD [.str kind, .str s] [("kind", 1), ("name", 2)]⟩
def xSame (s : Str) : Xc := ⟨"SameEnds", flD [.str s] [("passage", 1)]⟩
open Classical in
noncomputable def cNum (v : D) (lo hi : Int) : Ex Unit := if InR v lo hi then .ok () else .error (xNum v lo hi)
open Classical in
noncomputable def cName (s : Str) : Ex Unit := if IsNm s then .ok () else .error (xName s)
noncomputable def cKnown (kind name : Str) (known : List Str) : Ex Unit := if name ∈ known then .ok () else .error (xUnk kind name)
noncomputable def cNew (kind name : Str) (known : List Str) : Ex Unit := (cName name).bind fun _ => if name ∈ known then .error (xTwice kind name) else .ok ()
noncomputable def goNm (kind : Str) : List Str → List Str → Ex (List Str)
  | acc, [] => .ok acc
  | acc, w :: ws => (cNew kind w acc).bind fun _ => goNm kind (acc ++ [w]) ws
noncomputable def cNames (ws : List Str) (kind : Str) (lim : Int) : Ex (List Str) := (cNum (.int (ws.length : Nat)) 0 lim).bind fun _ => (goNm kind [] ws).bind fun ns => .ok (srtS ns)
theorem cNum_rz {v : D} {lo hi : Int} {k : Unit → Prop} {e : Xc → Prop} (h : Rz (cNum v lo hi) k e) : (InR v lo hi → k ()) ∧ (¬ InR v lo hi → e (xNum v lo hi)) := by
  unfold cNum at h
  exact ⟨fun z => by rw [if_pos z] at h; exact h, fun z => by rw [if_neg z] at h; exact h⟩
theorem cName_rz {s : Str} {k : Unit → Prop} {e : Xc → Prop} (h : Rz (cName s) k e) : (IsNm s → k ()) ∧ (¬ IsNm s → e (xName s)) := by
  unfold cName at h
  exact ⟨fun z => by rw [if_pos z] at h; exact h, fun z => by rw [if_neg z] at h; exact h⟩
theorem cKnown_rz {kind name : Str} {known : List Str} {k : Unit → Prop} {e : Xc → Prop} (h : Rz (cKnown kind name known) k e) : (name ∈ known → k ()) ∧ (name ∉ known → e (xUnk kind name)) := by
  unfold cKnown at h
  exact ⟨fun z => by rw [if_pos z] at h; exact h, fun z => by rw [if_neg z] at h; exact h⟩
theorem cNew_rz {kind name : Str} {known : List Str} {k : Unit → Prop} {e : Xc → Prop} (h : Rz (cNew kind name known) k e) : (IsNm name → (name ∈ known → e (xTwice kind name)) ∧ (name ∉ known → k ())) ∧ (¬ IsNm name → e (xName name)) := by
  unfold cNew at h
  rw [Rz_bind] at h
  obtain ⟨h1, h2⟩ := cName_rz h
  refine ⟨fun z => ⟨fun m => ?_, fun m => ?_⟩, h2⟩
  · have := h1 z
    rw [if_pos m] at this
    exact this
  · have := h1 z
    rw [if_neg m] at this
    exact this
/-! names known: a list or a dict's keys -/
def Knw (d : D) (ns : List Str) : Prop := d = .lst (ns.map D.str) ∨ ∃ kvs : List (Key × D), d = .dic kvs ∧ kvs.map (·.1) = ns.map Sum.inr
theorem strs_sca (ns : List Str) : (ns.map D.str).all D.sca = true := by
  rw [List.all_eq_true]
  intro d hd
  obtain ⟨x, _, rfl⟩ := List.mem_map.mp hd
  rfl
theorem memD_strs (x : Str) (ns : List Str) : memD (.str x) (ns.map D.str) = decide (x ∈ ns) := by
  rw [Bool.eq_iff_iff, decide_eq_true_eq]
  unfold memD
  rw [List.any_eq_true]
  constructor
  · rintro ⟨d, hd, h⟩
    obtain ⟨z, hz, rfl⟩ := List.mem_map.mp hd
    have h : (z == x) = true := h
    rw [← beq_iff_eq.mp h]
    exact hz
  · intro h
    exact ⟨.str x, List.mem_map_of_mem h, show (x == x) = true from beq_self_eq_true x⟩
theorem valD_mem {kvs : List (Key × D)} {ns : List Str} (e : kvs.map (·.1) = ns.map Sum.inr) (x : Str) : (valD kvs (.inr x)).isSome = decide (x ∈ ns) := by
  induction kvs generalizing ns with
  | nil =>
    cases ns with
    | nil => rfl
    | cons _ _ => cases e
  | cons p r ih =>
    cases ns with
    | nil => cases e
    | cons n ns =>
      rw [List.map_cons, List.map_cons] at e
      obtain ⟨e1, e2⟩ := List.cons.inj e
      have ih := ih e2
      unfold valD at ih ⊢
      rw [List.find?_cons, e1]
      by_cases h : n = x
      · subst h
        simp
      · have h2 : ¬ (Sum.inr n : Key) = Sum.inr x := fun z => h (Sum.inr.inj z)
        have h3 : ¬ x = n := fun z => h z.symm
        simp only [h2, decide_false]
        rw [ih]
        simp [h3]
theorem knw_in {neg : Bool} {x : Str} {d : D} {ns : List Str} {k : B → Prop} (h : Knw d ns) (hk : k (.fro (.bl (if neg then !decide (x ∈ ns) else decide (x ∈ ns))))) : inXD neg (.str x) d k := by
  rcases h with rfl | ⟨kvs, rfl, e⟩
  · refine ⟨rfl, strs_sca ns, ?_⟩
    rw [memD_strs]
    exact hk
  · show k (.fro (.bl (if neg then !(valD kvs (.inr x)).isSome else (valD kvs (.inr x)).isSome)))
    rw [valD_mem e]
    exact hk
theorem Knw.sca {d : D} {ns : List Str} (h : Knw d ns) : d.sca = false := by
  rcases h with rfl | ⟨_, rfl, _⟩ <;> rfl
theorem lkB_not {d : D} (h : d.sca = false) : lkB d = .lk d := by unfold lkB; rw [h]; rfl
def m_check_known : MX := fun ds k e => ∃ (kind name : Str) (d : D) (ns : List Str), ds = [.str kind, .str name, d] ∧ Knw d ns ∧ Tb kind ∧ Tb name ∧ Rz (cKnown kind name ns) (fun _ => k (.fro (.str name))) e
theorem len_check_known : ∀ ds κ ε, m_check_known ds κ ε → ds.length = 3 := by rintro _ _ _ ⟨_, _, _, _, rfl, _⟩; rfl
theorem mono_check_known : MonoX m_check_known := fun _ _ _ _ _ f g ⟨a, b, c, d, e, h0, h1, h2, h⟩ => ⟨a, b, c, d, e, h0, h1, h2, h.mono (fun _ _ => f _) g⟩
def N_check_known : List Str := ["kind", "name", "known"]
def T_check_known_0_1 : DS :=
    (dRet (dMove 1))
def T_check_known_1_0 : DS :=
    (dRaise "Unknown" [("kind", 1), ("name", 2)] 2 [1, 2] (dCons (dVar 0) (dCons (dVar 1) dNil)))
def T_check_known_0_0 : DS :=
    dSeq (dIf (dTest (dOp (inXD true) (dVarQ 1) (dVarQ 2)))
    T_check_known_1_0
    dNext)
    T_check_known_0_1
abbrev T_check_known : DS := T_check_known_0_0
theorem rd_check_known : ∀ ds κ ε, m_check_known ds κ ε → T_check_known ⟨fun _ => κ (.fro .non), rtP κ, fun _ => False, fun _ => False, fun x _ => ε x⟩ ⟨startQ N_check_known [] ds, none⟩ := by
  rintro ds κ ε ⟨kind, name, d, ns, rfl, hd, h1, h2, h⟩
  obtain ⟨ha, hb⟩ := cKnown_rz h
  have e : startQ N_check_known [] [.str kind, .str name, d] = [bs kind, bs name, some (.lk d)] := by
    show [bs kind, bs name, some (lkB d)] ++ [] = _
    rw [lkB_not hd.sca]
    rfl
  rw [e]
  walk_at "w"
  refine knw_in (neg := true) (x := name) hd ?_
  walk_at "w"
  refine ⟨fun z => ?_, fun z => ?_⟩
  · have z : name ∉ ns := by simpa using z
    walk_at "w"
    exact ⟨rfl, by decide, ⟨h1.txt, h2.txt, trivial⟩, hb z⟩
  · have z : name ∈ ns := by simpa using z
    walk_at "w"
    exact ha z
def m_check_new : MX := fun ds k e => ∃ (kind name : Str) (d : D) (ns : List Str), ds = [.str kind, .str name, d] ∧ Knw d ns ∧ Tb kind ∧ Tb name ∧ Rz (cNew kind name ns) (fun _ => k (.fro (.str name))) e
theorem len_check_new : ∀ ds κ ε, m_check_new ds κ ε → ds.length = 3 := by rintro _ _ _ ⟨_, _, _, _, rfl, _⟩; rfl
theorem mono_check_new : MonoX m_check_new := fun _ _ _ _ _ f g ⟨a, b, c, d, e, h0, h1, h2, h⟩ => ⟨a, b, c, d, e, h0, h1, h2, h.mono (fun _ _ => f _) g⟩
def N_check_new : List Str := ["kind", "name", "known"]
def T_check_new_0_2 : DS :=
    (dRet (dMove 1))
def T_check_new_1_0 : DS :=
    (dRaise "Twice" [("kind", 1), ("name", 2)] 2 [1, 2] (dCons (dVar 0) (dCons (dVar 1) dNil)))
def T_check_new_0_1 : DS :=
    dSeq (dIf (dTest (dOp (inXD false) (dVarQ 1) (dVarQ 2)))
    T_check_new_1_0
    dNext)
    T_check_new_0_2
def T_check_new_0_0 : DS :=
    dSeq (dDropX (dCallX m_check_name (dCons (dVar 1) dNil)))
    T_check_new_0_1
abbrev T_check_new : DS := T_check_new_0_0
theorem rd_check_new : ∀ ds κ ε, m_check_new ds κ ε → T_check_new ⟨fun _ => κ (.fro .non), rtP κ, fun _ => False, fun _ => False, fun x _ => ε x⟩ ⟨startQ N_check_new [] ds, none⟩ := by
  rintro ds κ ε ⟨kind, name, d, ns, rfl, hd, h1, h2, h⟩
  obtain ⟨ha, hb⟩ := cNew_rz h
  have e : startQ N_check_new [] [.str kind, .str name, d] = [bs kind, bs name, some (.lk d)] := by
    show [bs kind, bs name, some (lkB d)] ++ [] = _
    rw [lkB_not hd.sca]
    rfl
  rw [e]
  walk_at "w"
  refine ⟨name, rfl, h2, fun hn => ?_, fun hn => ?_⟩
  · obtain ⟨h3, h4⟩ := ha hn
    walk_at "w"
    refine knw_in (neg := false) (x := name) hd ?_
    walk_at "w"
    refine ⟨fun z => ?_, fun z => ?_⟩
    · have z : name ∈ ns := by simpa using z
      walk_at "w"
      exact ⟨rfl, by decide, ⟨h1.txt, h2.txt, trivial⟩, h3 z⟩
    · have z : name ∉ ns := by simpa using z
      walk_at "w"
      exact h4 z
  · exact hb hn
/-! ### passages -/
structure Pa where
  n : Str
  a : Str
  b : Str
  w : D
def Pa.d (p : Pa) : D := .tup [.str p.n, .str p.a, .str p.b, p.w]
structure Pr where
  n : Str
  lo : Str
  hi : Str
  w : Int
def Pr.d (r : Pr) : D := .tup [.str r.n, .str r.lo, .str r.hi, .int r.w]
def intOf : D → Int
  | .int i => i
  | _ => 0
noncomputable def cPas (cs earlier : List Str) (p : Pa) : Ex Pr := (cNew "passage" p.n earlier).bind fun _ => (cKnown "chamber" p.a cs).bind fun _ => (cKnown "chamber" p.b cs).bind fun _ =>
  if p.a = p.b then .error (xSame p.n) else (cNum p.w 1 6).bind fun _ => .ok ⟨p.n, minS p.a p.b, maxS p.a p.b, intOf p.w⟩
theorem tb_lit {s : Str} (h : s.cps.toList.all (fun c => decide (c < 16 ^ 8)) = true) (hl : decide (s.length ≤ 1000) = true) : Tb s := ⟨of_decide_eq_true hl, fun c hc => of_decide_eq_true (List.all_eq_true.mp h c hc)⟩
theorem num_txt {v : D} (h : NumD v) : v.txt := by
  rcases h with ⟨b, rfl⟩ | ⟨i, rfl, h⟩
  · exact trivial
  · exact h
structure Pa.ok (p : Pa) : Prop where
  n : Tb p.n
  a : Tb p.a
  b : Tb p.b
  w : NumD p.w
def m_check_passage : MX := fun ds k e => ∃ (p : Pa) (d : D) (cs ns : List Str), ds = [p.d, .lst (cs.map D.str), d] ∧ Knw d ns ∧ p.ok ∧ Rz (cPas cs ns p) (fun r => k (.fro r.d)) e
theorem len_check_passage : ∀ ds κ ε, m_check_passage ds κ ε → ds.length = 3 := by rintro _ _ _ ⟨_, _, _, _, rfl, _⟩; rfl
theorem mono_check_passage : MonoX m_check_passage := fun _ _ _ _ _ f g ⟨a, b, c, d, e, h0, h1, h⟩ => ⟨a, b, c, d, e, h0, h1, h.mono (fun _ _ => f _) g⟩
def N_check_passage : List Str := ["entry", "chambers", "earlier", "passage", "chamber", "other", "width"]
def T_check_passage_0_6 : DS :=
    (dRet (dUp (dTup (dCons (dVar 3) (dCons (dFz (dCl (two2D minI minS) (dCons (dVarQ 4) (dCons (dVarQ 5) dNil)))) (dCons (dFz (dCl (two2D maxI maxS) (dCons (dVarQ 4) (dCons (dVarQ 5) dNil)))) (dCons (dVar 6) dNil)))))))
def T_check_passage_0_5 : DS :=
    dSeq (dDropX (dCallX m_check_number (dCons (dVar 6) (dCons (dC (.int 1)) (dCons (dC (.int 6)) dNil)))))
    T_check_passage_0_6
def T_check_passage_1_0 : DS :=
    (dRaise "SameEnds" [("passage", 1)] 1 [1] (dCons (dVar 3) dNil))
def T_check_passage_0_4 : DS :=
    dSeq (dIf (dTest (dOp (eqD false) (dVarQ 4) (dVarQ 5)))
    T_check_passage_1_0
    dNext)
    T_check_passage_0_5
def T_check_passage_0_3 : DS :=
    dSeq (dDropX (dCallX m_check_known (dCons (dC (.str "chamber")) (dCons (dVarQ 5) (dCons (dVarQ 1) dNil)))))
    T_check_passage_0_4
def T_check_passage_0_2 : DS :=
    dSeq (dDropX (dCallX m_check_known (dCons (dC (.str "chamber")) (dCons (dVarQ 4) (dCons (dVarQ 1) dNil)))))
    T_check_passage_0_3
def T_check_passage_0_1 : DS :=
    dSeq (dDropX (dCallX m_check_new (dCons (dC (.str "passage")) (dCons (dVarQ 3) (dCons (dVarQ 2) dNil)))))
    T_check_passage_0_2
def T_check_passage_0_0 : DS :=
    dSeq (dAsgG (dVar 0) (dGT 4 (dGCons (dGN 3) (dGCons (dGN 4) (dGCons (dGN 5) (dGCons (dGN 6) dGNil))))))
    T_check_passage_0_1
abbrev T_check_passage : DS := T_check_passage_0_0
theorem rd_check_passage : ∀ ds κ ε, m_check_passage ds κ ε → T_check_passage ⟨fun _ => κ (.fro .non), rtP κ, fun _ => False, fun _ => False, fun x _ => ε x⟩ ⟨startQ N_check_passage [true] ds, none⟩ := by
  rintro ds κ ε ⟨p, d, cs, ns, rfl, hd, hp, h⟩
  unfold cPas at h
  rw [Rz_bind] at h
  have e : startQ N_check_passage [true] [p.d, .lst (cs.map D.str), d] = [some (.fro p.d), some (.lk (.lst (cs.map D.str))), some (.lk d), none, none, none, none] := by
    show [some (B.fro p.d), some (.lk (.lst (cs.map D.str))), some (lkB d)] ++ [none, none, none, none] = _
    rw [lkB_not hd.sca]
    rfl
  rw [e]
  walk_at "w"
  refine And.intro rfl ?_
  walk_at "w"
  refine ⟨_, _, _, ns, rfl, hd, tb_lit (by decide +kernel) (by decide +kernel), hp.n, h.mono (fun _ _ h => ?_) fun _ z => z⟩
  rw [Rz_bind] at h
  walk_at "w"
  refine ⟨_, _, _, cs, rfl, .inl rfl, tb_lit (by decide +kernel) (by decide +kernel), hp.a, h.mono (fun _ _ h => ?_) fun _ z => z⟩
  rw [Rz_bind] at h
  walk_at "w"
  refine ⟨_, _, _, cs, rfl, .inl rfl, tb_lit (by decide +kernel) (by decide +kernel), hp.b, h.mono (fun _ _ h => ?_) fun _ z => z⟩
  walk_at "w"
  refine ⟨fun z => ?_, fun z => ?_⟩
  · have z : p.a = p.b := of_decide_eq_true z
    rw [if_pos z] at h
    walk_at "w"
    exact ⟨rfl, by decide, ⟨hp.n.txt, trivial⟩, h⟩
  · have z : ¬ p.a = p.b := of_decide_eq_false z
    rw [if_neg z, Rz_bind] at h
    obtain ⟨h1, h2⟩ := cNum_rz h
    walk_at "w"
    refine ⟨_, _, _, rfl, hp.w, by decide, by decide, fun hr => ?_, h2⟩
    have h1 := h1 hr
    walk_at "w"
    obtain ⟨i, e, _⟩ := hr
    rw [e] at h1 ⊢
    exact ⟨szl (by show 4 ≤ _; omega), h1⟩
/-! passages, all of them -/
noncomputable def goPa (cs : List Str) : List Pr → List Pa → Ex (List Pr)
  | acc, [] => .ok acc
  | acc, p :: ps => (cPas cs (acc.map Pr.n) p).bind fun r => goPa cs (acc ++ [r]) ps
noncomputable def cPass (cs : List Str) (ps : List Pa) : Ex (List Pr) := (cNum (.int (ps.length : Nat)) 0 14).bind fun _ => (goPa cs [] ps).bind fun rs => .ok (srtR Pr.n rs)
/-- rows by their names, as a dict -/
def rwD {α : Type} (key : α → Str) (val : α → D) (rs : List α) : List (Key × D) := rs.map fun r => (Sum.inr (key r), val r)
theorem rw_keys {α : Type} (key : α → Str) (val : α → D) (rs : List α) : (rwD key val rs).map (·.1) = (rs.map key).map Sum.inr := by
  unfold rwD
  rw [List.map_map, List.map_map]
  rfl
theorem rw_put {α : Type} {key : α → Str} {val : α → D} {rs : List α} {r : α} (h : key r ∉ rs.map key) : putD (rwD key val rs) (.inr (key r)) (val r) = rwD key val (rs ++ [r]) := by
  unfold putD
  rw [if_neg]
  · unfold rwD
    rw [List.map_append]
    rfl
  · rw [List.any_eq_true]
    rintro ⟨x, hx, e⟩
    obtain ⟨y, hy, rfl⟩ := List.mem_map.mp hx
    have e : (Sum.inr (key y) : Key) = Sum.inr (key r) := of_decide_eq_true e
    have e := Sum.inr.inj e
    exact h (e ▸ List.mem_map_of_mem hy)
theorem rw_val {α : Type} {key : α → Str} {val : α → D} {rs : List α} (nd : (rs.map key).Nodup) {r : α} (h : r ∈ rs) : valD (rwD key val rs) (.inr (key r)) = some (val r) := by
  induction rs with
  | nil => cases h
  | cons x l ih =>
    rw [List.map_cons, List.nodup_cons] at nd
    unfold valD rwD at ih ⊢
    rw [List.map_cons, List.find?_cons]
    by_cases e : key x = key r
    · have : x = r := by
        rcases List.mem_cons.mp h with q | q
        · exact q.symm
        · exact absurd (e ▸ List.mem_map_of_mem q) nd.1
      subst this
      simp
    · have h2 : ¬ (Sum.inr (key x) : Key) = Sum.inr (key r) := fun z => e (Sum.inr.inj z)
      simp only [h2, decide_false]
      refine ih nd.2 ?_
      rcases List.mem_cons.mp h with q | q
      · exact absurd (congrArg key q.symm) e
      · exact q
theorem cPas_new {cs ns : List Str} {p : Pa} {r : Pr} (h : cPas cs ns p = .ok r) : r.n ∉ ns ∧ IsNm r.n ∧ r.n = p.n := by
  have q : Rz (cPas cs ns p) (fun z => z.n ∉ ns ∧ IsNm z.n ∧ z.n = p.n) fun _ => True := by
    unfold cPas
    rw [Rz_bind]
    have h1 : Rz (cNew "passage" p.n ns) (fun _ => p.n ∉ ns ∧ IsNm p.n) fun _ => True := by
      unfold cNew
      rw [Rz_bind]
      unfold cName
      by_cases a : IsNm p.n
      · rw [if_pos a]
        show Rz (if p.n ∈ ns then _ else _) _ _
        by_cases b : p.n ∈ ns
        · rw [if_pos b]; exact trivial
        · rw [if_neg b]; exact ⟨b, a⟩
      · rw [if_neg a]; exact trivial
    refine h1.mono (fun _ _ ⟨a, b⟩ => ?_) fun _ z => z
    rw [Rz_bind]
    unfold cKnown
    by_cases c : p.a ∈ cs
    · rw [if_pos c]
      show Rz (Except.bind (if p.b ∈ cs then _ else _) _) _ _
      by_cases d : p.b ∈ cs
      · rw [if_pos d]
        show Rz (if p.a = p.b then _ else _) _ _
        by_cases f : p.a = p.b
        · rw [if_pos f]; exact trivial
        · rw [if_neg f]
          unfold cNum
          rw [Rz_bind]
          by_cases g : InR p.w 1 6
          · rw [if_pos g]; exact ⟨a, b, rfl⟩
          · rw [if_neg g]; exact trivial
      · rw [if_neg d]; exact trivial
    · rw [if_neg c]; exact trivial
  rw [h] at q
  exact q
def m_checked_passages : MX := fun ds k e => ∃ (ps : List Pa) (cs : List Str), ds = [.lst (ps.map Pa.d), .lst (cs.map D.str)] ∧ (∀ p ∈ ps, p.ok) ∧ ps.length ≤ 60 ∧ Rz (cPass cs ps) (fun rs => k (.own (.lst (rs.map Pr.d)))) e
theorem len_checked_passages : ∀ ds κ ε, m_checked_passages ds κ ε → ds.length = 2 := by rintro _ _ _ ⟨_, _, rfl, _⟩; rfl
theorem mono_checked_passages : MonoX m_checked_passages := fun _ _ _ _ _ f g ⟨a, b, e, h0, h1, h⟩ => ⟨a, b, e, h0, h1, h.mono (fun _ _ => f _) g⟩
def N_checked_passages : List Str := ["passages", "chambers", "found", "entry", "row", "passage"]
def T_checked_passages_0_3 : DS :=
    (dRet (dFrzO [2] (dLc (dISq (dFz (dCl sortDD (dCons (dVarQ 2) dNil)))) (dGN 5) dYes (dFz (dGetD (dVarQ 2) (dVarQ 5))) [5])))
def T_checked_passages_1_1 : DS :=
    (dPutD 2 (dFz (dOp ixD (dVarQ 4) (dC (.int 0)))) (dVar 4))
def T_checked_passages_1_0 : DS :=
    dSeq (dSetX 4 (dCallX m_check_passage (dCons (dVar 3) (dCons (dVarQ 1) (dCons (dVarQ 2) dNil)))))
    T_checked_passages_1_1
def T_checked_passages_0_2 : DS :=
    dSeq (dFor (dISqV 0) (dGN 3)
    T_checked_passages_1_0)
    T_checked_passages_0_3
def T_checked_passages_0_1 : DS :=
    dSeq (dSet 2 dNewD)
    T_checked_passages_0_2
def T_checked_passages_0_0 : DS :=
    dSeq (dDropX (dCallX m_check_number (dCons (dFz (dCl lenD (dCons (dVarQ 0) dNil))) (dCons (dC (.int 0)) (dCons (dC (.int 14)) dNil)))))
    T_checked_passages_0_1
abbrev T_checked_passages : DS := T_checked_passages_0_0
theorem map_at {α : Type} {f : α → D} {xs : List α} {i : Nat} {d : D} (h : (xs.map f)[i]? = some d) : ∃ x, xs[i]? = some x ∧ d = f x := by
  rw [List.getElem?_map] at h
  cases e : xs[i]? with
  | none => rw [e] at h; cases h
  | some x => rw [e] at h; exact ⟨x, rfl, (Option.some.inj h).symm⟩
theorem log_nat {n : Nat} (h : n ≤ 100000) : ((n : Int)).natAbs.log2 < 1920 := by
  have : ((n : Int)).natAbs = n := Int.natAbs_natCast n
  rw [this]
  by_cases h0 : n = 0
  · subst h0; decide
  · exact (Nat.log2_lt h0).mpr (Nat.lt_of_le_of_lt h (Nat.lt_of_lt_of_le (by decide : 100000 < 2 ^ 17) (Nat.pow_le_pow_right (by decide) (by decide))))
theorem drop_at {α : Type} {xs : List α} {i : Nat} {x : α} (h : xs[i]? = some x) : xs.drop i = x :: xs.drop (i + 1) := by
  have hi := (List.getElem?_eq_some_iff.mp h).1
  rw [List.drop_eq_getElem_cons hi, (List.getElem?_eq_some_iff.mp h).2]
theorem rd_checked_passages : ∀ ds κ ε, m_checked_passages ds κ ε → T_checked_passages ⟨fun _ => κ (.fro .non), rtP κ, fun _ => False, fun _ => False, fun x _ => ε x⟩ ⟨startQ N_checked_passages [] ds, none⟩ := by
  rintro ds κ ε ⟨ps, cs, rfl, hp, hl, h⟩
  unfold cPass at h
  rw [Rz_bind] at h
  obtain ⟨h1, h2⟩ := cNum_rz h
  have hlm : (ps.map Pa.d).length = ps.length := List.length_map ..
  walk_at "w"
  refine ⟨_, _, _, rfl, .inr ⟨_, rfl, by rw [hlm]; exact log_nat (by omega)⟩, by decide, by decide, fun hr => ?_, fun hr => ?_⟩
  rotate_left
  · rw [hlm] at hr ⊢
    exact h2 hr
  rw [hlm] at hr
  have h := h1 hr
  clear h1 h2
  walk_at "w"
  refine forL _ (fun i Γ => ∃ (acc : List Pr) (x3 x4 : Option B), Γ = ⟨[some (.lk (.lst (ps.map Pa.d))), some (.lk (.lst (cs.map D.str))), some (.own (.dic (rwD Pr.n Pr.d acc))), x3, x4, none], none⟩ ∧ acc.length = i ∧ (acc.map Pr.n).Nodup ∧
    Rz ((goPa cs acc (ps.drop i)).bind fun rs => .ok (srtR Pr.n rs)) (fun rs => κ (.own (.lst (rs.map Pr.d)))) ε) ?_ ?_ _ ⟨[], _, _, rfl, rfl, .nil, h⟩
  · rintro Γ ⟨acc, x3, x4, rfl, ha, nd, h⟩
    rw [hlm] at ha
    rw [hlm, List.drop_length] at h
    have h : κ (.own (.lst ((srtR Pr.n acc).map Pr.d))) := h
    walk_at "w"
    refine ⟨_, acc.map Pr.n, rfl, rw_keys _ _ _, by rw [List.length_map]; omega, fun ys y1 y2 => ?_⟩
    have y3 := srt_uniq y1 y2
    subst y3
    rw [← srtR_key, List.map_map]
    have sl := srtR_len Pr.n acc
    walk_at "w"
    refine lcL _ (fun i out S => S = none ∧ out = ((srtR Pr.n acc).take i).map Pr.d) ?_ ?_ _ ⟨rfl, rfl⟩
    · rintro out S ⟨rfl, rfl⟩
      rw [List.length_map, List.take_length]
      exact h
    · rintro i d out S N hd ⟨rfl, rfl⟩ hN
      obtain ⟨r, hr, rfl⟩ := map_at hd
      have hi := (List.getElem?_eq_some_iff.mp hr).1
      have q := rw_val (val := Pr.d) nd (srtR_mem.mp (List.mem_of_getElem? hr))
      walk_at "w"
      refine ⟨fun _ => ?_, fun z => nomatch z⟩
      walk_at "w"
      refine ⟨_, q, ?_⟩
      refine ⟨slt (by rw [List.length_map, List.length_take]; omega), hN _ _ ⟨rfl, ?_⟩⟩
      rw [List.take_add_one, hr, List.map_append]
      rfl
  · rintro i d Γ N hd ⟨acc, x3, x4, rfl, ha, nd, h⟩ hN
    obtain ⟨p, hpi, rfl⟩ := map_at hd
    have hi := (List.getElem?_eq_some_iff.mp hpi).1
    rw [drop_at hpi, goPa, Rz_bind, Rz_bind] at h
    walk_at "w"
    refine ⟨_, _, cs, acc.map Pr.n, rfl, .inr ⟨_, rfl, rw_keys _ _ _⟩, hp p (List.mem_of_getElem? hpi), h.mono (fun r er h => ?_) fun _ z => z⟩
    obtain ⟨hnew, _, _⟩ := cPas_new er
    walk_at "w"
    refine ⟨_, rfl, ?_⟩
    walk_at "w"
    refine ⟨slt (by unfold rwD; rw [List.length_map]; omega), ?_⟩
    refine hN _ ⟨acc ++ [r], some (.fro p.d), some (.fro r.d), ?_, by rw [List.length_append, ha]; rfl, ?_, by rw [Rz_bind]; exact h⟩
    · rw [← rw_put hnew]
      rfl
    · rw [List.map_append, List.nodup_append]
      exact ⟨nd, by simp, fun a ha b hb e => hnew (by rw [List.mem_singleton.mp hb] at e; exact e ▸ ha)⟩
/-! ### delvers -/
structure Dv where
  n : Str
  h : Str
def Dv.d (p : Dv) : D := .tup [.str p.n, .str p.h]
noncomputable def cDel (cs earlier : List Str) (p : Dv) : Ex Dv := (cNew "delver" p.n earlier).bind fun _ => (cKnown "chamber" p.h cs).bind fun _ => .ok p
structure Dv.ok (p : Dv) : Prop where
  n : Tb p.n
  h : Tb p.h
def m_check_delver : MX := fun ds k e => ∃ (p : Dv) (d : D) (cs ns : List Str), ds = [p.d, .lst (cs.map D.str), d] ∧ Knw d ns ∧ p.ok ∧ Rz (cDel cs ns p) (fun r => k (.fro r.d)) e
theorem len_check_delver : ∀ ds κ ε, m_check_delver ds κ ε → ds.length = 3 := by rintro _ _ _ ⟨_, _, _, _, rfl, _⟩; rfl
theorem mono_check_delver : MonoX m_check_delver := fun _ _ _ _ _ f g ⟨a, b, c, d, e, h0, h1, h⟩ => ⟨a, b, c, d, e, h0, h1, h.mono (fun _ _ => f _) g⟩
def N_check_delver : List Str := ["entry", "chambers", "earlier", "delver", "home"]
def T_check_delver_0_3 : DS :=
    (dRet (dUp (dTup (dCons (dVar 3) (dCons (dVar 4) dNil)))))
def T_check_delver_0_2 : DS :=
    dSeq (dDropX (dCallX m_check_known (dCons (dC (.str "chamber")) (dCons (dVarQ 4) (dCons (dVarQ 1) dNil)))))
    T_check_delver_0_3
def T_check_delver_0_1 : DS :=
    dSeq (dDropX (dCallX m_check_new (dCons (dC (.str "delver")) (dCons (dVarQ 3) (dCons (dVarQ 2) dNil)))))
    T_check_delver_0_2
def T_check_delver_0_0 : DS :=
    dSeq (dAsgG (dVar 0) (dGT 2 (dGCons (dGN 3) (dGCons (dGN 4) dGNil))))
    T_check_delver_0_1
abbrev T_check_delver : DS := T_check_delver_0_0
theorem rd_check_delver : ∀ ds κ ε, m_check_delver ds κ ε → T_check_delver ⟨fun _ => κ (.fro .non), rtP κ, fun _ => False, fun _ => False, fun x _ => ε x⟩ ⟨startQ N_check_delver [true] ds, none⟩ := by
  rintro ds κ ε ⟨p, d, cs, ns, rfl, hd, hp, h⟩
  unfold cDel at h
  rw [Rz_bind] at h
  have e : startQ N_check_delver [true] [p.d, .lst (cs.map D.str), d] = [some (.fro p.d), some (.lk (.lst (cs.map D.str))), some (.lk d), none, none] := by
    show [some (B.fro p.d), some (.lk (.lst (cs.map D.str))), some (lkB d)] ++ [none, none] = _
    rw [lkB_not hd.sca]
    rfl
  rw [e]
  walk_at "w"
  refine And.intro rfl ?_
  walk_at "w"
  refine ⟨_, _, _, ns, rfl, hd, tb_lit (by decide +kernel) (by decide +kernel), hp.n, h.mono (fun _ _ h => ?_) fun _ z => z⟩
  rw [Rz_bind] at h
  walk_at "w"
  refine ⟨_, _, _, cs, rfl, .inl rfl, tb_lit (by decide +kernel) (by decide +kernel), hp.h, h.mono (fun _ _ h => ?_) fun _ z => z⟩
  walk_at "w"
  exact ⟨szl (by show 2 ≤ _; omega), h⟩
noncomputable def goDv (cs : List Str) : List Dv → List Dv → Ex (List Dv)
  | acc, [] => .ok acc
  | acc, p :: ps => (cDel cs (acc.map Dv.n) p).bind fun r => goDv cs (acc ++ [r]) ps
noncomputable def cDels (cs : List Str) (ps : List Dv) : Ex (List Dv) := (cNum (.int (ps.length : Nat)) 0 6).bind fun _ => (goDv cs [] ps).bind fun rs => .ok (srtR Dv.n rs)
theorem cDel_new {cs ns : List Str} {p r : Dv} (h : cDel cs ns p = .ok r) : r.n ∉ ns ∧ IsNm r.n ∧ r = p := by
  have q : Rz (cDel cs ns p) (fun z => z.n ∉ ns ∧ IsNm z.n ∧ z = p) fun _ => True := by
    unfold cDel
    rw [Rz_bind]
    have h1 : Rz (cNew "delver" p.n ns) (fun _ => p.n ∉ ns ∧ IsNm p.n) fun _ => True := by
      unfold cNew
      rw [Rz_bind]
      unfold cName
      by_cases a : IsNm p.n
      · rw [if_pos a]
        show Rz (if p.n ∈ ns then _ else _) _ _
        by_cases b : p.n ∈ ns
        · rw [if_pos b]; exact trivial
        · rw [if_neg b]; exact ⟨b, a⟩
      · rw [if_neg a]; exact trivial
    refine h1.mono (fun _ _ ⟨a, b⟩ => ?_) fun _ z => z
    rw [Rz_bind]
    unfold cKnown
    by_cases c : p.h ∈ cs
    · rw [if_pos c]; exact ⟨a, b, rfl⟩
    · rw [if_neg c]; exact trivial
  rw [h] at q
  exact q
def m_checked_delvers : MX := fun ds k e => ∃ (ps : List Dv) (cs : List Str), ds = [.lst (ps.map Dv.d), .lst (cs.map D.str)] ∧ (∀ p ∈ ps, p.ok) ∧ ps.length ≤ 60 ∧ Rz (cDels cs ps) (fun rs => k (.own (.lst (rs.map Dv.d)))) e
theorem len_checked_delvers : ∀ ds κ ε, m_checked_delvers ds κ ε → ds.length = 2 := by rintro _ _ _ ⟨_, _, rfl, _⟩; rfl
theorem mono_checked_delvers : MonoX m_checked_delvers := fun _ _ _ _ _ f g ⟨a, b, e, h0, h1, h⟩ => ⟨a, b, e, h0, h1, h.mono (fun _ _ => f _) g⟩
def N_checked_delvers : List Str := ["delvers", "chambers", "found", "entry", "row", "delver"]
def T_checked_delvers_0_3 : DS :=
    (dRet (dFrzO [2] (dLc (dISq (dFz (dCl sortDD (dCons (dVarQ 2) dNil)))) (dGN 5) dYes (dFz (dGetD (dVarQ 2) (dVarQ 5))) [5])))
def T_checked_delvers_1_1 : DS :=
    (dPutD 2 (dFz (dOp ixD (dVarQ 4) (dC (.int 0)))) (dVar 4))
def T_checked_delvers_1_0 : DS :=
    dSeq (dSetX 4 (dCallX m_check_delver (dCons (dVar 3) (dCons (dVarQ 1) (dCons (dVarQ 2) dNil)))))
    T_checked_delvers_1_1
def T_checked_delvers_0_2 : DS :=
    dSeq (dFor (dISqV 0) (dGN 3)
    T_checked_delvers_1_0)
    T_checked_delvers_0_3
def T_checked_delvers_0_1 : DS :=
    dSeq (dSet 2 dNewD)
    T_checked_delvers_0_2
def T_checked_delvers_0_0 : DS :=
    dSeq (dDropX (dCallX m_check_number (dCons (dFz (dCl lenD (dCons (dVarQ 0) dNil))) (dCons (dC (.int 0)) (dCons (dC (.int 6)) dNil)))))
    T_checked_delvers_0_1
abbrev T_checked_delvers : DS := T_checked_delvers_0_0
theorem rd_checked_delvers : ∀ ds κ ε, m_checked_delvers ds κ ε → T_checked_delvers ⟨fun _ => κ (.fro .non), rtP κ, fun _ => False, fun _ => False, fun x _ => ε x⟩ ⟨startQ N_checked_delvers [] ds, none⟩ := by
  rintro ds κ ε ⟨ps, cs, rfl, hp, hl, h⟩
  unfold cDels at h
  rw [Rz_bind] at h
  obtain ⟨h1, h2⟩ := cNum_rz h
  have hlm : (ps.map Dv.d).length = ps.length := List.length_map ..
  walk_at "w"
  refine ⟨_, _, _, rfl, .inr ⟨_, rfl, by rw [hlm]; exact log_nat (by omega)⟩, by decide, by decide, fun hr => ?_, fun hr => ?_⟩
  rotate_left
  · rw [hlm] at hr ⊢
    exact h2 hr
  rw [hlm] at hr
  have h := h1 hr
  clear h1 h2
  walk_at "w"
  refine forL _ (fun i Γ => ∃ (acc : List Dv) (x3 x4 : Option B), Γ = ⟨[some (.lk (.lst (ps.map Dv.d))), some (.lk (.lst (cs.map D.str))), some (.own (.dic (rwD Dv.n Dv.d acc))), x3, x4, none], none⟩ ∧ acc.length = i ∧ (acc.map Dv.n).Nodup ∧
    Rz ((goDv cs acc (ps.drop i)).bind fun rs => .ok (srtR Dv.n rs)) (fun rs => κ (.own (.lst (rs.map Dv.d)))) ε) ?_ ?_ _ ⟨[], _, _, rfl, rfl, .nil, h⟩
  · rintro Γ ⟨acc, x3, x4, rfl, ha, nd, h⟩
    rw [hlm] at ha
    rw [hlm, List.drop_length] at h
    have h : κ (.own (.lst ((srtR Dv.n acc).map Dv.d))) := h
    walk_at "w"
    refine ⟨_, acc.map Dv.n, rfl, rw_keys _ _ _, by rw [List.length_map]; omega, fun ys y1 y2 => ?_⟩
    have y3 := srt_uniq y1 y2
    subst y3
    rw [← srtR_key, List.map_map]
    have sl := srtR_len Dv.n acc
    walk_at "w"
    refine lcL _ (fun i out S => S = none ∧ out = ((srtR Dv.n acc).take i).map Dv.d) ?_ ?_ _ ⟨rfl, rfl⟩
    · rintro out S ⟨rfl, rfl⟩
      rw [List.length_map, List.take_length]
      exact h
    · rintro i d out S N hd ⟨rfl, rfl⟩ hN
      obtain ⟨r, hr, rfl⟩ := map_at hd
      have hi := (List.getElem?_eq_some_iff.mp hr).1
      have q := rw_val (val := Dv.d) nd (srtR_mem.mp (List.mem_of_getElem? hr))
      walk_at "w"
      refine ⟨fun _ => ?_, fun z => nomatch z⟩
      walk_at "w"
      refine ⟨_, q, ?_⟩
      refine ⟨slt (by rw [List.length_map, List.length_take]; omega), hN _ _ ⟨rfl, ?_⟩⟩
      rw [List.take_add_one, hr, List.map_append]
      rfl
  · rintro i d Γ N hd ⟨acc, x3, x4, rfl, ha, nd, h⟩ hN
    obtain ⟨p, hpi, rfl⟩ := map_at hd
    have hi := (List.getElem?_eq_some_iff.mp hpi).1
    rw [drop_at hpi, goDv, Rz_bind, Rz_bind] at h
    walk_at "w"
    refine ⟨_, _, cs, acc.map Dv.n, rfl, .inr ⟨_, rfl, rw_keys _ _ _⟩, hp p (List.mem_of_getElem? hpi), h.mono (fun r er h => ?_) fun _ z => z⟩
    obtain ⟨hnew, _, _⟩ := cDel_new er
    walk_at "w"
    refine ⟨_, rfl, ?_⟩
    walk_at "w"
    refine ⟨slt (by unfold rwD; rw [List.length_map]; omega), ?_⟩
    refine hN _ ⟨acc ++ [r], some (.fro p.d), some (.fro r.d), ?_, by rw [List.length_append, ha]; rfl, ?_, by rw [Rz_bind]; exact h⟩
    · rw [← rw_put hnew]
      rfl
    · rw [List.map_append, List.nodup_append]
      exact ⟨nd, by simp, fun a ha b hb e => hnew (by rw [List.mem_singleton.mp hb] at e; exact e ▸ ha)⟩
/-! ### check_names, but looked at -/
def sn1 (ws : List Str) : List (Key × D) := rwD (fun w => w) (fun _ => .bl true) ws
def m_check_names : MX := fun ds k e => ∃ (ws : List Str) (kind : Str) (lim : Int), ds = [.lst (ws.map D.str), .str kind, .int lim] ∧ (∀ w ∈ ws, Tb w) ∧ ws.length ≤ 60 ∧ Tb kind ∧ lim.natAbs.log2 < 1920 ∧ Rz (cNames ws kind lim) (fun ns => k (.own (.lst (ns.map D.str)))) e
theorem len_check_names : ∀ ds κ ε, m_check_names ds κ ε → ds.length = 3 := by rintro _ _ _ ⟨_, _, _, rfl, _⟩; rfl
theorem mono_check_names : MonoX m_check_names := fun _ _ _ _ _ f g ⟨ws, kd, l, e, h0, h1, h2, h3, h⟩ => ⟨ws, kd, l, e, h0, h1, h2, h3, h.mono (fun _ _ => f _) g⟩
def N_check_names : List Str := ["names", "kind", "limit", "seen", "name"]
def T_check_names_0_3 : DS :=
    (dRet (dCl sortDD (dCons (dVarQ 3) dNil)))
def T_check_names_1_2 : DS :=
    (dPutD 3 (dVar 4) (dC (.bl true)))
def T_check_names_2_0 : DS :=
    (dRaise "Twice" [("kind", 1), ("name", 2)] 2 [1, 2] (dCons (dVar 1) (dCons (dVar 4) dNil)))
def T_check_names_1_1 : DS :=
    dSeq (dIf (dTest (dOp (dinD false) (dVarQ 4) (dVarQ 3)))
    T_check_names_2_0
    dNext)
    T_check_names_1_2
def T_check_names_1_0 : DS :=
    dSeq (dDropX (dCallX m_check_name (dCons (dVar 4) dNil)))
    T_check_names_1_1
def T_check_names_0_2 : DS :=
    dSeq (dFor (dISqV 0) (dGN 4)
    T_check_names_1_0)
    T_check_names_0_3
def T_check_names_0_1 : DS :=
    dSeq (dSet 3 dNewD)
    T_check_names_0_2
def T_check_names_0_0 : DS :=
    dSeq (dDropX (dCallX m_check_number (dCons (dFz (dCl lenD (dCons (dVarQ 0) dNil))) (dCons (dC (.int 0)) (dCons (dVar 2) dNil)))))
    T_check_names_0_1
abbrev T_check_names : DS := T_check_names_0_0
theorem rd_check_names : ∀ ds κ ε, m_check_names ds κ ε → T_check_names ⟨fun _ => κ (.fro .non), rtP κ, fun _ => False, fun _ => False, fun x _ => ε x⟩ ⟨startQ N_check_names [] ds, none⟩ := by
  rintro ds κ ε ⟨ws, kd, lim, rfl, h0, hl, h2, h3, h⟩
  have hlm : (ws.map D.str).length = ws.length := List.length_map ..
  unfold cNames at h
  rw [Rz_bind] at h
  obtain ⟨h4, h5⟩ := cNum_rz h
  walk_at "w"
  refine ⟨_, _, _, rfl, .inr ⟨_, rfl, by rw [hlm]; exact log_nat (by omega)⟩, by decide, h3, fun hr => ?_, fun hr => ?_⟩
  rotate_left
  · rw [hlm] at hr ⊢
    exact h5 hr
  rw [hlm] at hr
  have h := h4 hr
  clear h4 h5
  walk_at "w"
  refine forL _ (fun i Γ => ∃ (acc : List Str) (x4 : Option B), Γ = ⟨[some (.lk (.lst (ws.map D.str))), bs kd, bi lim, some (.own (.dic (sn1 acc))), x4], none⟩ ∧ acc.length = i ∧ acc.Nodup ∧
    Rz ((goNm kd acc (ws.drop i)).bind fun ns => .ok (srtS ns)) (fun rs => κ (.own (.lst (rs.map D.str)))) ε) ?_ ?_ _ ⟨[], _, rfl, rfl, .nil, h⟩
  · rintro Γ ⟨acc, x4, rfl, ha, nd, h⟩
    rw [hlm] at ha
    rw [hlm, List.drop_length] at h
    have h : κ (.own (.lst ((srtS acc).map D.str))) := h
    walk_at "w"
    refine ⟨_, acc, rfl, by unfold sn1; rw [rw_keys, List.map_id'], by omega, fun ys y1 y2 => ?_⟩
    rw [srt_uniq y1 y2]
    exact h
  · rintro i d Γ N hd ⟨acc, x4, rfl, ha, nd, h⟩ hN
    obtain ⟨w, hw, rfl⟩ := map_at hd
    have hwm := List.mem_of_getElem? hw
    have hi := (List.getElem?_eq_some_iff.mp hw).1
    rw [drop_at hw, goNm, Rz_bind, Rz_bind] at h
    obtain ⟨h6, h7⟩ := cNew_rz h
    walk_at "w"
    refine ⟨w, rfl, h0 w hwm, fun hn => ?_, h7⟩
    obtain ⟨h8, h9⟩ := h6 hn
    walk_at "w"
    rw [show valD (sn1 acc) (.inr w) = valD (rwD (fun w => w) (fun _ => .bl true) acc) (.inr w) from rfl, valD_mem (ns := acc) (by rw [rw_keys, List.map_id'])]
    refine ⟨fun z => ?_, fun z => ?_⟩
    · have z : w ∈ acc := of_decide_eq_true z
      walk_at "w"
      exact ⟨rfl, by decide, ⟨h2.txt, (h0 w hwm).txt, trivial⟩, h8 z⟩
    · have z : ¬ w ∈ acc := of_decide_eq_false z
      have h := h9 z
      walk_at "w"
      refine ⟨slt (by unfold sn1 rwD; rw [List.length_map]; omega), ?_⟩
      refine hN _ ⟨acc ++ [w], some (.fro (.str w)), ?_, by rw [List.length_append, ha]; rfl, ?_, by rw [Rz_bind]; exact h⟩
      · rw [show sn1 (acc ++ [w]) = putD (sn1 acc) (.inr w) (.bl true) from (rw_put (key := fun w => w) (val := fun _ => D.bl true) (by rw [List.map_id']; exact z)).symm]
        rfl
      · rw [List.nodup_append]
        exact ⟨nd, by simp, fun a ha b hb e => z (by rw [List.mem_singleton.mp hb] at e; exact e ▸ ha)⟩

/-! ### dict comprehensions by the turn's number -/
theorem dcL {G : DG} {Tt : DT} {Tk Te : DE} {sl0 : List (Option B)} {k : List (Key × D) → Option Sto → Prop} (all : List D) (P : Nat → List (Key × D) → Option Sto → Prop) (hend : ∀ acc S, P all.length acc S → k acc S)
    (hs : ∀ (i : Nat) d acc S (N : List (Key × D) → Option Sto → Prop), all[i]? = some d → P i acc S → (∀ acc' S', P (i + 1) acc' S' → N acc' S') →
      G d ⟨sl0, S⟩ fun Γ2 => Tt Γ2 fun b Γ3 => (b = true → Tk Γ3 fun kd Γ4 => Te Γ4 fun e Γ5 => ∃ q, keyD kd = some q ∧ acc.length < sizeLine ∧ N (putD acc q e) Γ5.S) ∧ (b = false → N acc Γ3.S)) (S : Option Sto) (h0 : P 0 [] S) : dcGo G Tt Tk Te sl0 all [] S k := by
  have main : ∀ (ds : List D) (acc : List (Key × D)) (S : Option Sto) (i : Nat), ds = all.drop i → i ≤ all.length → P i acc S → dcGo G Tt Tk Te sl0 ds acc S k := fun ds => by
    induction ds with
    | nil =>
      intro acc S i e hi hp
      have h1 := List.drop_eq_nil_iff.mp e.symm
      have h2 : i = all.length := by omega
      subst h2
      rw [dcGo_nil]
      exact hend acc S hp
    | cons d ds ih =>
      intro acc S i e hi hp
      have hlt : i < all.length := by
        by_cases h : i < all.length
        · exact h
        · rw [List.drop_eq_nil_iff.mpr (by omega)] at e
          cases e
      rw [List.drop_eq_getElem_cons hlt] at e
      obtain ⟨e1, e2⟩ := List.cons.inj e
      rw [dcGo_cons]
      exact hs i d acc S (fun acc' S' => dcGo G Tt Tk Te sl0 ds acc' S' k) (by rw [e1]; exact List.getElem?_eq_getElem hlt) hp fun acc' S' h' => ih acc' S' (i + 1) e2 hlt h'
  exact main all [] S 0 rfl (Nat.zero_le _) h0
/-- a dict made of rows with unlike names -/
theorem dcR {α : Type} {f : α → D} {key : α → Str} {val : α → D} {rs : List α} {G : DG} {Tk Te : DE} {sl0 : List (Option B)} {k : List (Key × D) → Option Sto → Prop} {S : Option Sto} (nd : (rs.map key).Nodup) (hl : rs.length < 100000) (h : k (rwD key val rs) S)
    (hs : ∀ (r : α) (N : D → D → Option Sto → Prop), r ∈ rs → N (.str (key r)) (val r) S → G (f r) ⟨sl0, S⟩ fun Γ2 => Tk Γ2 fun kd Γ4 => Te Γ4 fun e Γ5 => N kd e Γ5.S) : dcGo G dYes Tk Te sl0 (rs.map f) [] S k := by
  refine dcL _ (fun i acc S' => S' = S ∧ acc = rwD key val (rs.take i)) ?_ ?_ _ ⟨rfl, rfl⟩
  · rintro acc S' ⟨rfl, rfl⟩
    rw [List.length_map, List.take_length]
    exact h
  · rintro i d acc S' N hd ⟨rfl, rfl⟩ hN
    obtain ⟨r, hr, rfl⟩ := map_at hd
    have hi := (List.getElem?_eq_some_iff.mp hr).1
    have e : rs.take (i + 1) = rs.take i ++ [r] := by rw [List.take_add_one, hr]; rfl
    have hnew : key r ∉ (rs.take i).map key := by
      have q : ((rs.take (i + 1)).map key).Nodup := nd.sublist ((List.take_sublist _ _).map _)
      rw [e, List.map_append, List.nodup_append] at q
      exact fun z => q.2.2 _ z (key r) (by simp) rfl
    have main := hs r (fun kd e S2 => ∃ q, keyD kd = some q ∧ (rwD key val (rs.take i)).length < sizeLine ∧ N (putD (rwD key val (rs.take i)) q e) S2) (List.mem_of_getElem? hr)
      ⟨_, rfl, slt (by unfold rwD; rw [List.length_map, List.length_take]; omega), hN _ _ ⟨rfl, by rw [rw_put hnew, e]⟩⟩
    show G (f r) _ fun Γ2 => (true = true → _) ∧ (true = false → _)
    have w : ∀ {p : Ev → Prop} {q : Ev → Prop}, (fun Γ2 => p Γ2) = (fun Γ2 => (true = true → p Γ2) ∧ (true = false → q Γ2)) := fun {p q} => by
      funext Γ2
      exact propext ⟨fun z => ⟨fun _ => z, fun z => nomatch z⟩, fun z => z.1 rfl⟩
    rw [← w]
    exact main
theorem dyes_eq {p q : Ev → Prop} : (fun Γ2 => p Γ2) = (fun Γ2 => (true = true → p Γ2) ∧ (true = false → q Γ2)) := by
  funext Γ2
  exact propext ⟨fun z => ⟨fun _ => z, fun z => nomatch z⟩, fun z => z.1 rfl⟩
/-- a list made one by one -/
theorem lcM {α : Type} {f : α → D} {val : α → D} {rs : List α} {G : DG} {Te : DE} {sl0 : List (Option B)} {k : List D → Option Sto → Prop} {S : Option Sto} (hl : rs.length < 100000) (h : k (rs.map val) S)
    (hs : ∀ (r : α) (N : D → Option Sto → Prop), r ∈ rs → N (val r) S → G (f r) ⟨sl0, S⟩ fun Γ2 => Te Γ2 fun e Γ4 => N e Γ4.S) : lcGo G dYes Te sl0 (rs.map f) [] S k := by
  refine lcL _ (fun i acc S' => S' = S ∧ acc = (rs.take i).map val) ?_ ?_ _ ⟨rfl, rfl⟩
  · rintro acc S' ⟨rfl, rfl⟩
    rw [List.length_map, List.take_length]
    exact h
  · rintro i d acc S' N hd ⟨rfl, rfl⟩ hN
    obtain ⟨r, hr, rfl⟩ := map_at hd
    have hi := (List.getElem?_eq_some_iff.mp hr).1
    have e : rs.take (i + 1) = rs.take i ++ [r] := by rw [List.take_add_one, hr]; rfl
    have main := hs r (fun e S2 => ((rs.take i).map val).length < sizeLine ∧ N ((rs.take i).map val ++ [e]) S2) (List.mem_of_getElem? hr)
      ⟨slt (by rw [List.length_map, List.length_take]; omega), hN _ _ ⟨rfl, by rw [e, List.map_append]; rfl⟩⟩
    show G (f r) _ fun Γ2 => (true = true → _) ∧ (true = false → _)
    rw [← dyes_eq]
    exact main
/-! ### passages_at -/
def psAt (c : Str) (rows : List Pr) : List Str := (rows.filter fun r => decide (c = r.lo ∨ c = r.hi)).map Pr.n
def m_passages_at : MP := fun ds k => ∃ (c : Str) (rows : List Pr), ds = [.str c, .lst (rows.map Pr.d)] ∧ rows.length ≤ 1000 ∧ k (.own (.lst ((psAt c rows).map D.str)))
theorem len_passages_at : ∀ ds κ, m_passages_at ds κ → ds.length = 2 := by rintro _ _ ⟨_, _, rfl, _⟩; rfl
theorem mono_passages_at : ∀ ds k k', (∀ b, k b → k' b) → m_passages_at ds k → m_passages_at ds k' := fun _ _ _ f ⟨c, r, e, h0, h⟩ => ⟨c, r, e, h0, f _ h⟩
def N_passages_at : List Str := ["chamber", "rows", "passage", "low", "high", "spare"]
def T_passages_at_0_0 : DS :=
    (dRet (dFrzO [0] (dLc (dISq (dVar 1)) (dGT 4 (dGCons (dGN 2) (dGCons (dGN 3) (dGCons (dGN 4) (dGCons (dGN 5) dGNil))))) (dTest (dOp (inD false) (dVarQ 0) (dTup (dCons (dVar 3) (dCons (dVar 4) dNil))))) (dVar 2) [2, 3, 4, 5])))
abbrev T_passages_at : DS := T_passages_at_0_0
theorem rd_passages_at : ∀ ds κ, m_passages_at ds κ → T_passages_at ⟨fun _ => κ (.fro .non), rtP κ, fun _ => False, fun _ => False, fun _ _ => False⟩ ⟨startD N_passages_at ds, none⟩ := by
  rintro ds κ ⟨c, rows, rfl, hl, h⟩
  walk_at "w"
  refine lcL _ (fun i out S => S = none ∧ out = (psAt c (rows.take i)).map D.str) ?_ ?_ _ ⟨rfl, rfl⟩
  · rintro out S ⟨rfl, rfl⟩
    rw [List.length_map, List.take_length]
    exact h
  · rintro i d out S N hd ⟨rfl, rfl⟩ hN
    obtain ⟨r, hr, rfl⟩ := map_at hd
    have hi := (List.getElem?_eq_some_iff.mp hr).1
    have e : psAt c (rows.take (i + 1)) = psAt c (rows.take i) ++ (if c = r.lo ∨ c = r.hi then [r.n] else []) := by
      unfold psAt
      rw [List.take_add_one, hr, Option.toList_some, List.filter_append, List.map_append]
      congr 1
      by_cases q : c = r.lo ∨ c = r.hi
      · rw [if_pos q, List.filter_cons_of_pos (by simpa using q)]; rfl
      · rw [if_neg q, List.filter_cons_of_neg (by simpa using q)]; rfl
    have hb : ((psAt c (rows.take i)).map D.str).length < sizeLine := by
      refine slt ?_
      unfold psAt
      rw [List.length_map, List.length_map]
      have := List.length_filter_le (fun r : Pr => decide (c = r.lo ∨ c = r.hi)) (rows.take i)
      rw [List.length_take] at this
      omega
    walk_at "w"
    refine And.intro rfl ?_
    walk_at "w"
    refine And.intro (szl (by show 2 ≤ _; omega)) ?_
    walk_at "w"
    refine And.intro rfl (And.intro rfl ?_)
    have hm : memD (D.str c) [D.str r.lo, D.str r.hi] = decide (c = r.lo ∨ c = r.hi) := by
      have := memD_strs c [r.lo, r.hi]
      rw [show ([r.lo, r.hi].map D.str) = [D.str r.lo, D.str r.hi] from rfl] at this
      rw [this]
      congr 1
      simp
    rw [hm]
    walk_at "w"
    refine ⟨fun z => ?_, fun z => ?_⟩
    · have z : c = r.lo ∨ c = r.hi := of_decide_eq_true z
      rw [if_pos z] at e
      exact ⟨hb, hN _ _ ⟨rfl, by rw [e, List.map_append]; rfl⟩⟩
    · have z : ¬ (c = r.lo ∨ c = r.hi) := of_decide_eq_false z
      rw [if_neg z, List.append_nil] at e
      exact hN _ _ ⟨rfl, by rw [e]⟩
/-! ### Deep(..) -/
/-- a Deep's entries, ascending -/
structure Dp where
  cs : List Str
  ps : List Pr
  ds : List Dv
  rope : Int
def Pr.en (r : Pr) : D := .tup [.str r.lo, .str r.hi]
def Pr.wd (r : Pr) : D := .int r.w
def Dv.hm (r : Dv) : D := .str r.h
def exA (ps : List Pr) (c : Str) : D := .lst ((psAt c ps).map D.str)
def Dp.fs (p : Dp) : List (Str × D) := [("chamber_names", .lst (p.cs.map D.str)), ("rope_length", .int p.rope), ("passage_ends", .dic (rwD Pr.n Pr.en p.ps)), ("passage_widths", .dic (rwD Pr.n Pr.wd p.ps)), ("delver_homes", .dic (rwD Dv.n Dv.hm p.ds)), ("chamber_exits", .dic (rwD (fun c => c) (exA p.ps) p.cs))]
def Dp.d (p : Dp) : D := .ins "Deep" p.fs
noncomputable def cDeep (ws : List Str) (ps : List Pa) (dv : List Dv) (rope : D) : Ex Dp := (cNames ws "chamber" 10).bind fun cs => (cPass cs ps).bind fun rs => (cDels cs dv).bind fun hs => (cNum rope 1 12).bind fun _ => .ok ⟨cs, rs, hs, intOf rope⟩
theorem Rz_ok {α : Type} {r : Ex α} {P : α → Prop} (h : Rz r P fun _ => True) {a : α} (e : r = .ok a) : P a := by
  rw [e] at h
  exact h
theorem Rz_any {α : Type} {r : Ex α} : Rz r (fun _ => True) fun _ => True := by cases r <;> exact trivial
theorem goNm_nd {kind : Str} : ∀ (ws acc : List Str), acc.Nodup → Rz (goNm kind acc ws) (fun ns => ns.Nodup ∧ ns = acc ++ ws) fun _ => True
  | [], acc, h => ⟨h, (List.append_nil _).symm⟩
  | w :: ws, acc, h => by
    rw [goNm, Rz_bind]
    have q : Rz (cNew kind w acc) (fun _ => w ∉ acc) fun _ => True := by
      unfold cNew
      rw [Rz_bind]
      refine Rz_any.mono (fun _ _ _ => ?_) fun _ z => z
      by_cases b : w ∈ acc
      · rw [if_pos b]; exact trivial
      · rw [if_neg b]; exact b
    refine q.mono (fun _ _ hn => ?_) fun _ z => z
    refine (goNm_nd ws (acc ++ [w]) ?_).mono (fun ns _ ⟨h1, h2⟩ => ⟨h1, by rw [h2, List.append_assoc]; rfl⟩) fun _ z => z
    rw [List.nodup_append]
    exact ⟨h, by simp, fun a ha b hb e => hn (by rw [List.mem_singleton.mp hb] at e; exact e ▸ ha)⟩
theorem cNames_nd {ws : List Str} {kind : Str} {lim : Int} {cs : List Str} (h : cNames ws kind lim = .ok cs) : cs.Nodup ∧ cs = srtS ws ∧ (ws.length : Int) ≤ lim := by
  refine Rz_ok (P := fun cs => cs.Nodup ∧ cs = srtS ws ∧ (ws.length : Int) ≤ lim) ?_ h
  unfold cNames
  rw [Rz_bind]
  unfold cNum
  by_cases g : InR (.int (ws.length : Nat)) 0 lim
  · rw [if_pos g]
    show Rz (Except.bind _ _) _ _
    rw [Rz_bind]
    refine (goNm_nd ws [] .nil).mono (fun ns _ ⟨h1, h2⟩ => ?_) fun _ z => z
    have h2 : ns = ws := h2
    subst h2
    obtain ⟨i, e, _, g2⟩ := g
    cases e
    exact ⟨(srtS_perm ns).nodup_iff.mpr h1, rfl, g2⟩
  · rw [if_neg g]; exact trivial
theorem goPa_nd {cs : List Str} : ∀ (ps : List Pa) (acc : List Pr), (acc.map Pr.n).Nodup → Rz (goPa cs acc ps) (fun rs => (rs.map Pr.n).Nodup ∧ rs.length = acc.length + ps.length) fun _ => True
  | [], acc, h => ⟨h, rfl⟩
  | p :: ps, acc, h => by
    rw [goPa, Rz_bind]
    refine Rz_any.mono (fun r er _ => ?_) fun _ z => z
    obtain ⟨hn, _, _⟩ := cPas_new er
    refine (goPa_nd ps (acc ++ [r]) ?_).mono (fun rs _ ⟨h1, h2⟩ => ⟨h1, by rw [h2]; simp only [List.length_append, List.length_cons, List.length_nil]; omega⟩) fun _ z => z
    rw [List.map_append, List.nodup_append]
    exact ⟨h, by simp, fun a ha b hb e => hn (by rw [List.mem_singleton.mp hb] at e; exact e ▸ ha)⟩
theorem goDv_nd {cs : List Str} : ∀ (ps : List Dv) (acc : List Dv), (acc.map Dv.n).Nodup → Rz (goDv cs acc ps) (fun rs => (rs.map Dv.n).Nodup ∧ rs.length = acc.length + ps.length) fun _ => True
  | [], acc, h => ⟨h, rfl⟩
  | p :: ps, acc, h => by
    rw [goDv, Rz_bind]
    refine Rz_any.mono (fun r er _ => ?_) fun _ z => z
    obtain ⟨hn, _, _⟩ := cDel_new er
    refine (goDv_nd ps (acc ++ [r]) ?_).mono (fun rs _ ⟨h1, h2⟩ => ⟨h1, by rw [h2]; simp only [List.length_append, List.length_cons, List.length_nil]; omega⟩) fun _ z => z
    rw [List.map_append, List.nodup_append]
    exact ⟨h, by simp, fun a ha b hb e => hn (by rw [List.mem_singleton.mp hb] at e; exact e ▸ ha)⟩
theorem cPass_nd {cs : List Str} {ps : List Pa} {rs : List Pr} (h : cPass cs ps = .ok rs) : (rs.map Pr.n).Nodup ∧ rs.length = ps.length ∧ ps.length ≤ 14 := by
  refine Rz_ok (P := fun rs => (rs.map Pr.n).Nodup ∧ rs.length = ps.length ∧ ps.length ≤ 14) ?_ h
  unfold cPass
  rw [Rz_bind]
  unfold cNum
  by_cases g : InR (.int (ps.length : Nat)) 0 14
  · rw [if_pos g]
    show Rz (Except.bind _ _) _ _
    rw [Rz_bind]
    refine (goPa_nd ps [] .nil).mono (fun ns _ ⟨h1, h2⟩ => ?_) fun _ z => z
    obtain ⟨i, e, _, g2⟩ := g
    cases e
    have h2 : ns.length = 0 + ps.length := h2
    exact ⟨((srtR_perm Pr.n ns).map Pr.n).nodup_iff.mpr h1, by rw [srtR_len]; omega, by omega⟩
  · rw [if_neg g]; exact trivial
theorem cDels_nd {cs : List Str} {ps rs : List Dv} (h : cDels cs ps = .ok rs) : (rs.map Dv.n).Nodup ∧ rs.length = ps.length ∧ ps.length ≤ 6 := by
  refine Rz_ok (P := fun rs => (rs.map Dv.n).Nodup ∧ rs.length = ps.length ∧ ps.length ≤ 6) ?_ h
  unfold cDels
  rw [Rz_bind]
  unfold cNum
  by_cases g : InR (.int (ps.length : Nat)) 0 6
  · rw [if_pos g]
    show Rz (Except.bind _ _) _ _
    rw [Rz_bind]
    refine (goDv_nd ps [] .nil).mono (fun ns _ ⟨h1, h2⟩ => ?_) fun _ z => z
    obtain ⟨i, e, _, g2⟩ := g
    cases e
    have h2 : ns.length = 0 + ps.length := h2
    exact ⟨((srtR_perm Dv.n ns).map Dv.n).nodup_iff.mpr h1, by rw [srtR_len]; omega, by omega⟩
  · rw [if_neg g]; exact trivial
def m_Deep_init : MI := fun ds k e => ∃ (ws : List Str) (ps : List Pa) (dv : List Dv) (rope : D), ds = [.lst (ws.map D.str), .lst (ps.map Pa.d), .lst (dv.map Dv.d), rope] ∧ (∀ w ∈ ws, Tb w) ∧ ws.length ≤ 60 ∧ (∀ p ∈ ps, p.ok) ∧ ps.length ≤ 60 ∧ (∀ p ∈ dv, p.ok) ∧ dv.length ≤ 60 ∧ NumD rope ∧
  Rz (cDeep ws ps dv rope) (fun p => k p.fs) e
theorem len_Deep_init : ∀ ds κ ε, m_Deep_init ds κ ε → ds.length = 4 := by rintro _ _ _ ⟨_, _, _, _, rfl, _⟩; rfl
theorem mono_Deep_init : MonoI m_Deep_init := fun _ _ _ _ _ f g ⟨a, b, c, d, e, h1, h2, h3, h4, h5, h6, h7, h⟩ => ⟨a, b, c, d, e, h1, h2, h3, h4, h5, h6, h7, h.mono (fun _ _ => f _) g⟩
def N_Deep_init : List Str := ["chambers", "passages", "delvers", "rope", "rows", "homes", "passage", "low", "high", "spare", "width", "delver", "home", "chamber"]
def T_Deep_init_0_7 : DS :=
    (dFldN 0 "Deep" "chamber_exits" fl_Deep 5 (dFz (dFrzO [5] (dDc (dISq (dFldP 0 "Deep" fl_Deep 0)) (dGN 14) dYes (dVar 14) (dFz (dCall m_passages_at [] (dCons (dVar 14) (dCons (dVar 5) dNil)))) [14]))))
def T_Deep_init_0_6 : DS :=
    dSeq (dFldN 0 "Deep" "delver_homes" fl_Deep 4 (dFz (dDc (dISq (dVar 6)) (dGT 2 (dGCons (dGN 12) (dGCons (dGN 13) dGNil))) dYes (dVar 12) (dVar 13) [12, 13])))
    T_Deep_init_0_7
def T_Deep_init_0_5 : DS :=
    dSeq (dFldN 0 "Deep" "passage_widths" fl_Deep 3 (dFz (dDc (dISq (dVar 5)) (dGT 4 (dGCons (dGN 7) (dGCons (dGN 8) (dGCons (dGN 9) (dGCons (dGN 11) dGNil))))) dYes (dVar 7) (dVar 11) [7, 8, 9, 11])))
    T_Deep_init_0_6
def T_Deep_init_0_4 : DS :=
    dSeq (dFldN 0 "Deep" "passage_ends" fl_Deep 2 (dFz (dDc (dISq (dVar 5)) (dGT 4 (dGCons (dGN 7) (dGCons (dGN 8) (dGCons (dGN 9) (dGCons (dGN 10) dGNil))))) dYes (dVar 7) (dTup (dCons (dVar 8) (dCons (dVar 9) dNil))) [7, 8, 9, 10])))
    T_Deep_init_0_5
def T_Deep_init_0_3 : DS :=
    dSeq (dFldNX 0 "Deep" "rope_length" fl_Deep 1 (dCallX m_check_number (dCons (dVar 4) (dCons (dC (.int 1)) (dCons (dC (.int 12)) dNil)))))
    T_Deep_init_0_4
def T_Deep_init_0_2 : DS :=
    dSeq (dSetX 6 (dCallX m_checked_delvers (dCons (dVarQ 3) (dCons (dFldP 0 "Deep" fl_Deep 0) dNil))))
    T_Deep_init_0_3
def T_Deep_init_0_1 : DS :=
    dSeq (dSetX 5 (dCallX m_checked_passages (dCons (dVarQ 2) (dCons (dFldP 0 "Deep" fl_Deep 0) dNil))))
    T_Deep_init_0_2
def T_Deep_init_0_0 : DS :=
    dSeq (dFldNX 0 "Deep" "chamber_names" fl_Deep 0 (dCallX m_check_names (dCons (dVarQ 1) (dCons (dC (.str "chamber")) (dCons (dC (.int 10)) dNil)))))
    T_Deep_init_0_1
abbrev T_Deep_init : DS := T_Deep_init_0_0
abbrev dpE (a : Addr) (ws : List Str) (ps : List Pa) (dv : List Dv) (rope : D) (x5 x6 : Option B) (fs : List (Str × D)) : Ev := @Ev.mk [some (.fro (.ptr a)), some (.lk (.lst (ws.map D.str))), some (.lk (.lst (ps.map Pa.d))), some (.lk (.lst (dv.map Dv.d))), some (.fro rope), x5, x6, none, none, none, none, none, none, none, none] none ⟨[(a, .ins "Deep" fs)]⟩
section
variable {a : Addr} {ws cs : List Str} {ps : List Pa} {dv hs : List Dv} {rope : D} {rs : List Pr} {i : Int} {De : En}
theorem dp7 (c1 : cs.Nodup) (cl : cs.length ≤ 60) (pl : rs.length ≤ 60) {x6 : Option B} {f2 f3 f4 f5 : D} (h : De.nx (dpE a ws ps dv rope (some (.fro (.lst (rs.map Pr.d)))) x6 [("chamber_names", .lst (cs.map D.str)), ("rope_length", f2), ("passage_ends", f3), ("passage_widths", f4), ("delver_homes", f5), ("chamber_exits", .dic (rwD (fun c => c) (exA rs) cs))])) :
    T_Deep_init_0_7 De (dpE a ws ps dv rope (some (.fro (.lst (rs.map Pr.d)))) x6 [("chamber_names", .lst (cs.map D.str)), ("rope_length", f2), ("passage_ends", f3), ("passage_widths", f4), ("delver_homes", f5)]) := by
  walk_at "w"
  refine ⟨rfl, rfl, 5, _, rfl, rfl, ?_⟩
  walk_at "w"
  refine dcR (key := fun c => c) (val := exA rs) (by rw [List.map_id']; exact c1) (by omega) ?_ fun r N hr hN => ?_
  rotate_left
  · walk_at "w"
    refine ⟨r, rs, rfl, by omega, ?_⟩
    exact hN
  · exact ⟨rfl, rfl, rfl, h⟩
theorem dp6 (d1 : (hs.map Dv.n).Nodup) (dl : hs.length ≤ 60) {x5 x6 : Option B} {f1 f2 f3 f4 : D} (hx : x6 = some (.own (.lst (hs.map Dv.d)))) (h : T_Deep_init_0_7 De (dpE a ws ps dv rope x5 (some (.fro (.lst (hs.map Dv.d)))) [("chamber_names", f1), ("rope_length", f2), ("passage_ends", f3), ("passage_widths", f4), ("delver_homes", .dic (rwD Dv.n Dv.hm hs))])) :
    T_Deep_init_0_6 De (dpE a ws ps dv rope x5 x6 [("chamber_names", f1), ("rope_length", f2), ("passage_ends", f3), ("passage_widths", f4)]) := by
  subst hx
  walk_at "w"
  refine dcR (key := Dv.n) (val := Dv.hm) d1 (by omega) ?_ fun r N hr hN => ?_
  rotate_left
  · walk_at "w"
    refine And.intro rfl ?_
    exact hN
  · exact ⟨rfl, rfl, rfl, h⟩
theorem dp5 (p1 : (rs.map Pr.n).Nodup) (pl : rs.length ≤ 60) {x6 : Option B} {f1 f2 f3 : D} (h : T_Deep_init_0_6 De (dpE a ws ps dv rope (some (.fro (.lst (rs.map Pr.d)))) x6 [("chamber_names", f1), ("rope_length", f2), ("passage_ends", f3), ("passage_widths", .dic (rwD Pr.n Pr.wd rs))])) :
    T_Deep_init_0_5 De (dpE a ws ps dv rope (some (.fro (.lst (rs.map Pr.d)))) x6 [("chamber_names", f1), ("rope_length", f2), ("passage_ends", f3)]) := by
  walk_at "w"
  refine dcR (key := Pr.n) (val := Pr.wd) p1 (by omega) ?_ fun r N hr hN => ?_
  rotate_left
  · walk_at "w"
    refine And.intro rfl ?_
    exact hN
  · exact ⟨rfl, rfl, rfl, h⟩
theorem dp4 (p1 : (rs.map Pr.n).Nodup) (pl : rs.length ≤ 60) {x6 : Option B} {f1 f2 : D} (h : T_Deep_init_0_5 De (dpE a ws ps dv rope (some (.fro (.lst (rs.map Pr.d)))) x6 [("chamber_names", f1), ("rope_length", f2), ("passage_ends", .dic (rwD Pr.n Pr.en rs))])) :
    T_Deep_init_0_4 De (dpE a ws ps dv rope (some (.own (.lst (rs.map Pr.d)))) x6 [("chamber_names", f1), ("rope_length", f2)]) := by
  walk_at "w"
  refine dcR (key := Pr.n) (val := Pr.en) p1 (by omega) ?_ fun r N hr hN => ?_
  rotate_left
  · walk_at "w"
    refine And.intro rfl ?_
    walk_at "w"
    exact ⟨szl (by show 2 ≤ _; omega), hN⟩
  · exact ⟨rfl, rfl, rfl, h⟩
end
theorem rd_Deep_init : ∀ a ds κ ε, m_Deep_init ds κ ε → T_Deep_init ⟨nxN κ a "Deep", fun _ _ => False, fun _ => False, fun _ => False, fun x _ => ε x⟩ (startN N_Deep_init [] a "Deep" ds) := by
  rintro a ds κ ε ⟨ws, ps, dv, rope, rfl, h1, h2, h3, h4, h5, h6, h7, h⟩
  unfold cDeep at h
  rw [Rz_bind] at h
  have e : startN N_Deep_init [] a "Deep" [.lst (ws.map D.str), .lst (ps.map Pa.d), .lst (dv.map Dv.d), rope] = dpE a ws ps dv rope none none [] := by
    rcases h7 with ⟨b, rfl⟩ | ⟨i, rfl, _⟩ <;> rfl
  rw [e]
  clear e
  walk_at "w"
  refine ⟨ws, _, _, rfl, h1, h2, tb_lit (by decide +kernel) (by decide +kernel), by decide, h.mono (fun cs ec h => ?_) fun _ z => z⟩
  obtain ⟨c1, c2, c3⟩ := cNames_nd ec
  have cl : cs.length ≤ 60 := by rw [c2, srtS_len]; omega
  clear ec
  rw [Rz_bind] at h
  refine ⟨rfl, rfl, rfl, ?_⟩
  show T_Deep_init_0_1 _ (dpE a ws ps dv rope none none [("chamber_names", .lst (cs.map D.str))])
  walk_at "w"
  refine ⟨rfl, rfl, 1, _, rfl, rfl, ?_⟩
  walk_at "w"
  refine ⟨ps, cs, rfl, h3, h4, h.mono (fun rs ec h => ?_) fun _ z => z⟩
  obtain ⟨p1, p2, p3⟩ := cPass_nd ec
  clear ec
  rw [Rz_bind] at h
  show T_Deep_init_0_2 _ (dpE a ws ps dv rope (some (.own (.lst (rs.map Pr.d)))) none [("chamber_names", .lst (cs.map D.str))])
  walk_at "w"
  refine ⟨rfl, rfl, 1, _, rfl, rfl, ?_⟩
  walk_at "w"
  refine ⟨dv, cs, rfl, h5, h6, h.mono (fun hs ec h => ?_) fun _ z => z⟩
  obtain ⟨d1, d2, d3⟩ := cDels_nd ec
  clear ec
  rw [Rz_bind] at h
  obtain ⟨r1, r2⟩ := cNum_rz h
  show T_Deep_init_0_3 _ (dpE a ws ps dv rope (some (.own (.lst (rs.map Pr.d)))) (some (.own (.lst (hs.map Dv.d)))) [("chamber_names", .lst (cs.map D.str))])
  walk_at "w"
  refine ⟨_, _, _, rfl, h7, by decide, by decide, fun hr => ?_, r2⟩
  have h := r1 hr
  clear r1 r2
  obtain ⟨i, e, _⟩ := hr
  subst e
  refine ⟨rfl, rfl, rfl, ?_⟩
  show T_Deep_init_0_4 _ (dpE a ws ps dv (.int i) (some (.own (.lst (rs.map Pr.d)))) (some (.own (.lst (hs.map Dv.d)))) [("chamber_names", .lst (cs.map D.str)), ("rope_length", .int i)])
  exact dp4 p1 (by omega) (dp5 p1 (by omega) (dp6 d1 (by omega) rfl (dp7 c1 cl (by omega) ⟨_, rfl, h⟩)))

/-! ### a Deep's methods -/
structure Dp.ok (p : Dp) : Prop where
  nc : p.cs.Nodup
  lc : p.cs.length ≤ 10
  vc : ∀ c ∈ p.cs, IsNm c
  np : (p.ps.map Pr.n).Nodup
  lp : p.ps.length ≤ 14
  vp : ∀ r ∈ p.ps, IsNm r.n ∧ r.lo ∈ p.cs ∧ r.hi ∈ p.cs ∧ 1 ≤ r.w ∧ r.w ≤ 6
  nd : (p.ds.map Dv.n).Nodup
  ld : p.ds.length ≤ 6
  vd : ∀ d ∈ p.ds, IsNm d.n ∧ d.h ∈ p.cs
  ro : 1 ≤ p.rope ∧ p.rope ≤ 12
theorem dp_is (p : Dp) : isI "Deep" fl_Deep p.d := ⟨_, rfl, rfl⟩
theorem dp_f0 (p : Dp) : fldI "Deep" fl_Deep 0 p.d (.lst (p.cs.map D.str)) := ⟨_, rfl, rfl, rfl⟩
theorem dp_f1 (p : Dp) : fldI "Deep" fl_Deep 1 p.d (.int p.rope) := ⟨_, rfl, rfl, rfl⟩
theorem dp_f2 (p : Dp) : fldI "Deep" fl_Deep 2 p.d (.dic (rwD Pr.n Pr.en p.ps)) := ⟨_, rfl, rfl, rfl⟩
theorem dp_f3 (p : Dp) : fldI "Deep" fl_Deep 3 p.d (.dic (rwD Pr.n Pr.wd p.ps)) := ⟨_, rfl, rfl, rfl⟩
theorem dp_f4 (p : Dp) : fldI "Deep" fl_Deep 4 p.d (.dic (rwD Dv.n Dv.hm p.ds)) := ⟨_, rfl, rfl, rfl⟩
theorem dp_f5 (p : Dp) : fldI "Deep" fl_Deep 5 p.d (.dic (rwD (fun c => c) (exA p.ps) p.cs)) := ⟨_, rfl, rfl, rfl⟩
theorem rw_kD {α : Type} {key : α → Str} {val : α → D} {rs : List α} : (rwD key val rs).map (fun kv => kD kv.1) = (rs.map key).map D.str := by
  unfold rwD
  rw [List.map_map, List.map_map]
  rfl
theorem rw_its {α : Type} {key : α → Str} {val : α → D} {rs : List α} : DWk.its.items (rwD key val rs) = rs.map fun r => .tup [.str (key r), val r] := by
  show (rwD key val rs).map _ = _
  unfold rwD
  rw [List.map_map]
  rfl
def m_Deep_rope : MX := fun ds k e => ∃ p : Dp, ds = [p.d] ∧ k (.fro (.int p.rope))
theorem len_Deep_rope : ∀ ds κ ε, m_Deep_rope ds κ ε → ds.length = 1 := by rintro _ _ _ ⟨_, rfl, _⟩; rfl
theorem mono_Deep_rope : MonoX m_Deep_rope := fun _ _ _ _ _ f g ⟨a, e, h⟩ => ⟨a, e, f _ h⟩
def N_Deep_rope : List Str := ["self"]
def T_Deep_rope_0_0 : DS :=
    (dRet (dUp (dFld "Deep" fl_Deep 1 (dVarQ 0))))
abbrev T_Deep_rope : DS := T_Deep_rope_0_0
theorem rd_Deep_rope : ∀ ds κ ε, m_Deep_rope ds κ ε → T_Deep_rope ⟨fun _ => κ (.fro .non), rtP κ, fun _ => False, fun _ => False, fun x _ => ε x⟩ ⟨startQ N_Deep_rope [] ds, none⟩ := by
  rintro ds κ ε ⟨p, rfl, h⟩
  walk_at "w"
  exact ⟨_, dp_f1 p, h⟩
def m_Deep_chambers : MX := fun ds k e => ∃ p : Dp, ds = [p.d] ∧ p.ok ∧ k (.own (.lst (p.cs.map D.str)))
theorem len_Deep_chambers : ∀ ds κ ε, m_Deep_chambers ds κ ε → ds.length = 1 := by rintro _ _ _ ⟨_, rfl, _⟩; rfl
theorem mono_Deep_chambers : MonoX m_Deep_chambers := fun _ _ _ _ _ f g ⟨a, e, h0, h⟩ => ⟨a, e, h0, f _ h⟩
def N_Deep_chambers : List Str := ["self"]
def T_Deep_chambers_0_0 : DS :=
    (dRet (dCl lstAD (dCons (dFld "Deep" fl_Deep 0 (dVarQ 0)) dNil)))
abbrev T_Deep_chambers : DS := T_Deep_chambers_0_0
theorem rd_Deep_chambers : ∀ ds κ ε, m_Deep_chambers ds κ ε → T_Deep_chambers ⟨fun _ => κ (.fro .non), rtP κ, fun _ => False, fun _ => False, fun x _ => ε x⟩ ⟨startQ N_Deep_chambers [false] ds, none⟩ := by
  rintro ds κ ε ⟨p, rfl, ok, h⟩
  walk_at "w"
  exact ⟨_, dp_f0 p, h⟩
def m_Deep_delvers : MX := fun ds k e => ∃ p : Dp, ds = [p.d] ∧ p.ok ∧ k (.own (.lst ((p.ds.map Dv.n).map D.str)))
theorem len_Deep_delvers : ∀ ds κ ε, m_Deep_delvers ds κ ε → ds.length = 1 := by rintro _ _ _ ⟨_, rfl, _⟩; rfl
theorem mono_Deep_delvers : MonoX m_Deep_delvers := fun _ _ _ _ _ f g ⟨a, e, h0, h⟩ => ⟨a, e, h0, f _ h⟩
def N_Deep_delvers : List Str := ["self"]
def T_Deep_delvers_0_0 : DS :=
    (dRet (dCl lstAD (dCons (dFld "Deep" fl_Deep 4 (dVarQ 0)) dNil)))
abbrev T_Deep_delvers : DS := T_Deep_delvers_0_0
theorem rd_Deep_delvers : ∀ ds κ ε, m_Deep_delvers ds κ ε → T_Deep_delvers ⟨fun _ => κ (.fro .non), rtP κ, fun _ => False, fun _ => False, fun x _ => ε x⟩ ⟨startQ N_Deep_delvers [false] ds, none⟩ := by
  rintro ds κ ε ⟨p, rfl, ok, h⟩
  walk_at "w"
  refine ⟨_, dp_f4 p, ?_⟩
  walk_at "w"
  rw [rw_kD]
  exact h
def m_Deep_home : MX := fun ds k e => ∃ (p : Dp) (s : Str), ds = [p.d, .str s] ∧ p.ok ∧ Tb s ∧ (∀ d ∈ p.ds, d.n = s → k (.fro (.str d.h))) ∧ (s ∉ p.ds.map Dv.n → e (xUnk "delver" s))
theorem len_Deep_home : ∀ ds κ ε, m_Deep_home ds κ ε → ds.length = 2 := by rintro _ _ _ ⟨_, _, rfl, _⟩; rfl
theorem mono_Deep_home : MonoX m_Deep_home := fun _ _ _ _ _ f g ⟨a, s, e, h0, h1, h, h2⟩ => ⟨a, s, e, h0, h1, fun d q w => f _ (h d q w), fun z => g _ (h2 z)⟩
def N_Deep_home : List Str := ["self", "delver"]
def T_Deep_home_0_1 : DS :=
    (dRet (dGetD (dFld "Deep" fl_Deep 4 (dVarQ 0)) (dVarQ 1)))
def T_Deep_home_0_0 : DS :=
    dSeq (dDropX (dCallX m_check_known (dCons (dC (.str "delver")) (dCons (dVarQ 1) (dCons (dFld "Deep" fl_Deep 4 (dVarQ 0)) dNil)))))
    T_Deep_home_0_1
abbrev T_Deep_home : DS := T_Deep_home_0_0
theorem rd_Deep_home : ∀ ds κ ε, m_Deep_home ds κ ε → T_Deep_home ⟨fun _ => κ (.fro .non), rtP κ, fun _ => False, fun _ => False, fun x _ => ε x⟩ ⟨startQ N_Deep_home [false] ds, none⟩ := by
  rintro ds κ ε ⟨p, s, rfl, ok, hs, h, hx⟩
  walk_at "w"
  refine ⟨_, dp_f4 p, ?_⟩
  walk_at "w"
  refine ⟨_, _, _, p.ds.map Dv.n, rfl, .inr ⟨_, rfl, rw_keys _ _ _⟩, tb_lit (by decide +kernel) (by decide +kernel), hs, ?_⟩
  unfold cKnown
  by_cases z : s ∈ p.ds.map Dv.n
  · rw [if_pos z]
    obtain ⟨d, hd, e⟩ := List.mem_map.mp z
    have q := rw_val (val := Dv.hm) ok.nd hd
    rw [e] at q
    walk_at "w"
    refine ⟨_, dp_f4 p, ?_⟩
    walk_at "w"
    exact ⟨_, q, h d hd e⟩
  · rw [if_neg z]
    exact hx z
def m_Deep_entries : MX := fun ds k e => ∃ p : Dp, ds = [p.d] ∧ p.ok ∧ k (.own (.lst (p.ps.map Pr.d)))
theorem len_Deep_entries : ∀ ds κ ε, m_Deep_entries ds κ ε → ds.length = 1 := by rintro _ _ _ ⟨_, rfl, _⟩; rfl
theorem mono_Deep_entries : MonoX m_Deep_entries := fun _ _ _ _ _ f g ⟨a, e, h0, h⟩ => ⟨a, e, h0, f _ h⟩
def N_Deep_entries : List Str := ["self", "passage", "low", "high"]
def T_Deep_entries_0_0 : DS :=
    (dRet (dLc (dWk (.fl 0 "Deep" "passage_ends" fl_Deep 2) .its) (dGT 2 (dGCons (dGN 1) (dGCons (dGT 2 (dGCons (dGN 2) (dGCons (dGN 3) dGNil))) dGNil))) dYes (dTup (dCons (dVar 1) (dCons (dVar 2) (dCons (dVar 3) (dCons (dFz (dGetD (dFld "Deep" fl_Deep 3 (dVarQ 0)) (dVarQ 1))) dNil))))) [1, 2, 3]))
abbrev T_Deep_entries : DS := T_Deep_entries_0_0
theorem rd_Deep_entries : ∀ ds κ ε, m_Deep_entries ds κ ε → T_Deep_entries ⟨fun _ => κ (.fro .non), rtP κ, fun _ => False, fun _ => False, fun x _ => ε x⟩ ⟨startQ N_Deep_entries [false] ds, none⟩ := by
  rintro ds κ ε ⟨p, rfl, ok, h⟩
  walk_at "w"
  refine ⟨_, dp_f2 p, ?_⟩
  walk_at "w"
  rw [rw_its]
  refine lcM (val := Pr.d) (by have := ok.lp; omega) h fun r N hr hN => ?_
  have q := rw_val (val := Pr.wd) ok.np hr
  walk_at "w"
  refine And.intro rfl ?_
  walk_at "w"
  refine And.intro rfl ?_
  walk_at "w"
  refine ⟨_, dp_f3 p, ?_⟩
  walk_at "w"
  refine ⟨_, q, ?_⟩
  walk_at "w"
  exact ⟨szl (by show 4 ≤ _; omega), hN⟩

/-! ### a Deep as told -/
def Pr.toPa (r : Pr) : Pa := ⟨r.n, r.lo, r.hi, .int r.w⟩
/-- the same row, its ends ascending -/
def Pr.mm (r : Pr) : Pr := ⟨r.n, minS r.lo r.hi, maxS r.lo r.hi, r.w⟩
def Dp.told (p : Dp) : D := .tup [.lst (p.cs.map D.str), .lst (p.ps.map Pr.d), .lst (p.ds.map Dv.d), .int p.rope]
def Dp.norm (p : Dp) : Dp := ⟨srtS p.cs, srtR Pr.n (p.ps.map Pr.mm), srtR Dv.n p.ds, p.rope⟩
structure Dp.good (p : Dp) : Prop extends p.ok where
  ne : ∀ r ∈ p.ps, r.lo ≠ r.hi
theorem isNm_tb {s : Str} (h : IsNm s) : Tb s := by
  refine ⟨by have := h.len; omega, fun c hc => ?_⟩
  have := h.tx c hc
  exact Nat.lt_trans (Nat.lt_of_le_of_lt this.2 (by decide)) (by decide : 127 < 16 ^ 8)
theorem isNm_ok {s : Str} (h : IsNm s) : OkS s := by
  unfold OkS PyData.strOk
  rw [← Array.all_toList, List.all_eq_true]
  intro c hc
  have := h.tx c hc
  exact decide_eq_true (Nat.lt_of_le_of_lt this.2 (by decide))
theorem minS_mem (x y : Str) : minS x y = x ∨ minS x y = y := by
  unfold minS
  by_cases h : ltS y x
  · rw [if_pos h]; exact .inr rfl
  · rw [if_neg h]; exact .inl rfl
theorem maxS_mem (x y : Str) : maxS x y = x ∨ maxS x y = y := by
  unfold maxS
  by_cases h : ltS x y
  · rw [if_pos h]; exact .inr rfl
  · rw [if_neg h]; exact .inl rfl
theorem mm_names (ps : List Pr) : (ps.map Pr.mm).map Pr.n = ps.map Pr.n := by
  rw [List.map_map]
  rfl
theorem Dp.good.norm {p : Dp} (h : p.good) : p.norm.ok := by
  have hm : ∀ {c : Str}, c ∈ p.cs → c ∈ srtS p.cs := fun q => srtS_mem.mpr q
  refine ⟨(srtS_perm _).nodup_iff.mpr h.nc, ?_, fun c hc => h.vc c (srtS_mem.mp hc), ?_, ?_, ?_, ?_, ?_, ?_, h.ro⟩
  · show (srtS p.cs).length ≤ 10
    rw [srtS_len]; exact h.lc
  · refine ((srtR_perm Pr.n _).map Pr.n).nodup_iff.mpr ?_
    rw [mm_names]
    exact h.np
  · show (srtR Pr.n _).length ≤ 14
    rw [srtR_len, List.length_map]
    exact h.lp
  · intro r hr
    obtain ⟨q, hq, rfl⟩ := List.mem_map.mp (srtR_mem.mp hr)
    obtain ⟨h1, h2, h3, h4⟩ := h.vp q hq
    refine ⟨h1, ?_, ?_, h4⟩
    · rcases minS_mem q.lo q.hi with e | e
      · exact hm (by rw [show q.mm.lo = minS q.lo q.hi from rfl, e]; exact h2)
      · exact hm (by rw [show q.mm.lo = minS q.lo q.hi from rfl, e]; exact h3)
    · rcases maxS_mem q.lo q.hi with e | e
      · exact hm (by rw [show q.mm.hi = maxS q.lo q.hi from rfl, e]; exact h2)
      · exact hm (by rw [show q.mm.hi = maxS q.lo q.hi from rfl, e]; exact h3)
  · exact ((srtR_perm Dv.n _).map Dv.n).nodup_iff.mpr h.nd
  · show (srtR Dv.n _).length ≤ 6
    rw [srtR_len]; exact h.ld
  · intro d hd
    obtain ⟨h1, h2⟩ := h.vd d (srtR_mem.mp hd)
    exact ⟨h1, hm h2⟩
/-! a good one is made -/
theorem cNew_ok {kind name : Str} {known : List Str} (h : IsNm name) (h2 : name ∉ known) : cNew kind name known = .ok () := by
  unfold cNew cName
  rw [if_pos h]
  show (if name ∈ known then _ else _) = _
  rw [if_neg h2]
theorem cKnown_ok {kind name : Str} {known : List Str} (h : name ∈ known) : cKnown kind name known = .ok () := by
  unfold cKnown
  rw [if_pos h]
theorem cNum_ok {i lo hi : Int} (h : lo ≤ i) (h2 : i ≤ hi) : cNum (.int i) lo hi = .ok () := by
  unfold cNum
  rw [if_pos ⟨i, rfl, h, h2⟩]
theorem goNm_ok {kind : Str} : ∀ (ws acc : List Str), (acc ++ ws).Nodup → (∀ w ∈ ws, IsNm w) → goNm kind acc ws = .ok (acc ++ ws)
  | [], acc, _, _ => by rw [goNm, List.append_nil]
  | w :: ws, acc, nd, hw => by
    have hn : w ∉ acc := fun z => by
      rw [List.nodup_append] at nd
      exact nd.2.2 w z w List.mem_cons_self rfl
    rw [goNm, cNew_ok (hw w List.mem_cons_self) hn]
    show goNm kind (acc ++ [w]) ws = _
    rw [goNm_ok ws (acc ++ [w]) (by rw [List.append_assoc]; exact nd) fun x hx => hw x (List.mem_cons_of_mem _ hx), List.append_assoc]
    rfl
theorem goPa_ok {cs : List Str} : ∀ (ps acc : List Pr), ((acc ++ ps).map Pr.n).Nodup → (∀ r ∈ ps, IsNm r.n ∧ r.lo ∈ cs ∧ r.hi ∈ cs ∧ r.lo ≠ r.hi ∧ 1 ≤ r.w ∧ r.w ≤ 6) → goPa cs (acc.map Pr.mm) (ps.map Pr.toPa) = .ok ((acc ++ ps).map Pr.mm)
  | [], acc, _, _ => by rw [List.map_nil, goPa, List.append_nil]
  | r :: ps, acc, nd, hw => by
    obtain ⟨h1, h2, h3, h4, h5⟩ := hw r List.mem_cons_self
    have hn : r.n ∉ acc.map Pr.n := fun z => by
      rw [List.map_append, List.nodup_append] at nd
      exact nd.2.2 _ z r.n List.mem_cons_self rfl
    have e : cPas cs (acc.map Pr.n) r.toPa = .ok r.mm := by
      unfold cPas
      rw [show r.toPa.n = r.n from rfl, show r.toPa.a = r.lo from rfl, show r.toPa.b = r.hi from rfl, show r.toPa.w = .int r.w from rfl, cNew_ok h1 hn, cKnown_ok h2, cKnown_ok h3]
      show (if r.lo = r.hi then _ else _) = _
      rw [if_neg h4, cNum_ok h5.1 h5.2]
      rfl
    rw [List.map_cons, goPa, mm_names, e]
    show goPa cs (acc.map Pr.mm ++ [r.mm]) (ps.map Pr.toPa) = _
    have := goPa_ok ps (acc ++ [r]) (by rw [List.append_assoc]; exact nd) fun x hx => hw x (List.mem_cons_of_mem _ hx)
    rw [List.map_append] at this
    rw [show acc.map Pr.mm ++ [r.mm] = acc.map Pr.mm ++ [r].map Pr.mm from rfl, this, List.append_assoc]
    rfl
theorem goDv_ok {cs : List Str} : ∀ (ps acc : List Dv), ((acc ++ ps).map Dv.n).Nodup → (∀ r ∈ ps, IsNm r.n ∧ r.h ∈ cs) → goDv cs acc ps = .ok (acc ++ ps)
  | [], acc, _, _ => by rw [goDv, List.append_nil]
  | r :: ps, acc, nd, hw => by
    obtain ⟨h1, h2⟩ := hw r List.mem_cons_self
    have hn : r.n ∉ acc.map Dv.n := fun z => by
      rw [List.map_append, List.nodup_append] at nd
      exact nd.2.2 _ z r.n List.mem_cons_self rfl
    have e : cDel cs (acc.map Dv.n) r = .ok r := by
      unfold cDel
      rw [cNew_ok h1 hn, cKnown_ok h2]
      rfl
    rw [goDv, e]
    show goDv cs (acc ++ [r]) ps = _
    rw [goDv_ok ps (acc ++ [r]) (by rw [List.append_assoc]; exact nd) fun x hx => hw x (List.mem_cons_of_mem _ hx), List.append_assoc]
    rfl
theorem cDeep_ok {p : Dp} (h : p.good) : cDeep p.cs (p.ps.map Pr.toPa) p.ds (.int p.rope) = .ok p.norm := by
  have e1 : cNames p.cs "chamber" 10 = .ok (srtS p.cs) := by
    unfold cNames
    rw [cNum_ok (by omega) (by have := h.lc; omega)]
    show Except.bind (goNm _ [] p.cs) _ = _
    rw [goNm_ok p.cs [] h.nc h.vc]
    rfl
  have e2 : cPass (srtS p.cs) (p.ps.map Pr.toPa) = .ok (srtR Pr.n (p.ps.map Pr.mm)) := by
    unfold cPass
    rw [cNum_ok (by omega) (by rw [List.length_map]; have := h.lp; omega)]
    show Except.bind (goPa _ ([].map Pr.mm) _) _ = _
    rw [goPa_ok p.ps [] h.np fun r hr => by
      obtain ⟨a, b, c, d⟩ := h.vp r hr
      exact ⟨a, srtS_mem.mpr b, srtS_mem.mpr c, h.ne r hr, d⟩]
    rfl
  have e3 : cDels (srtS p.cs) p.ds = .ok (srtR Dv.n p.ds) := by
    unfold cDels
    rw [cNum_ok (by omega) (by have := h.ld; omega)]
    show Except.bind (goDv _ [] _) _ = _
    rw [goDv_ok p.ds [] h.nd fun r hr => by
      obtain ⟨a, b⟩ := h.vd r hr
      exact ⟨a, srtS_mem.mpr b⟩]
    rfl
  unfold cDeep
  rw [e1]
  show Except.bind (cPass (srtS p.cs) _) _ = _
  rw [e2]
  show Except.bind (cDels (srtS p.cs) _) _ = _
  rw [e3]
  show Except.bind (cNum (.int p.rope) 1 12) _ = _
  rw [cNum_ok h.ro.1 h.ro.2]
  rfl

/-! ### what the laws know of a told Deep -/
theorem dv_rows (ds : List Dv) : ds.map Dv.d = ds.map fun a => D.tup (.str a.n :: [.str a.h]) := rfl
theorem pr_rows (ps : List Pr) : ps.map Pr.d = ps.map fun a => D.tup (.str a.n :: [.str a.lo, .str a.hi, .int a.w]) := rfl
theorem srt_pr {ps : List Pr} (nd : (ps.map Pr.n).Nodup) : (ps.map Pr.d).mergeSort srtB = (srtR Pr.n ps).map Pr.d := by
  rw [pr_rows]
  exact srt_rows (rest := fun a : Pr => [.str a.lo, .str a.hi, .int a.w]) nd
theorem srt_dv {ds : List Dv} (nd : (ds.map Dv.n).Nodup) : (ds.map Dv.d).mergeSort srtB = (srtR Dv.n ds).map Dv.d := by
  rw [dv_rows]
  exact srt_rows (rest := fun a : Dv => [.str a.h]) nd
theorem ok_pr {ps : List Pr} (h : ∀ r ∈ ps, OkS r.n ∧ OkS r.lo ∧ OkS r.hi) : SrtOk (ps.map Pr.d) := by
  refine ok_rows (row := fun r : Pr => [.str r.n, .str r.lo, .str r.hi, .int r.w]) (ty := [some 0, some 0, some 0, some 1]) (fun _ => rfl) (by simp) fun r hr x hx => ?_
  obtain ⟨h1, h2, h3⟩ := h r hr
  simp only [List.mem_cons, List.not_mem_nil, or_false] at hx
  rcases hx with rfl | rfl | rfl | rfl
  · exact h1
  · exact h2
  · exact h3
  · exact trivial
theorem ok_dv {ds : List Dv} (h : ∀ r ∈ ds, OkS r.n ∧ OkS r.h) : SrtOk (ds.map Dv.d) := by
  refine ok_rows (row := fun r : Dv => [.str r.n, .str r.h]) (ty := [some 0, some 0]) (fun _ => rfl) (by simp) fun r hr x hx => ?_
  obtain ⟨h1, h2⟩ := h r hr
  simp only [List.mem_cons, List.not_mem_nil, or_false] at hx
  rcases hx with rfl | rfl
  · exact h1
  · exact h2
theorem Dp.ok.sp {p : Dp} (h : p.ok) : ∀ r ∈ p.ps, OkS r.n ∧ OkS r.lo ∧ OkS r.hi := fun r hr => by
  obtain ⟨h1, h2, h3, _⟩ := h.vp r hr
  exact ⟨isNm_ok h1, isNm_ok (h.vc _ h2), isNm_ok (h.vc _ h3)⟩
theorem Dp.ok.sd {p : Dp} (h : p.ok) : ∀ r ∈ p.ds, OkS r.n ∧ OkS r.h := fun r hr => by
  obtain ⟨h1, h2⟩ := h.vd r hr
  exact ⟨isNm_ok h1, isNm_ok (h.vc _ h2)⟩
theorem Dp.ok.sc {p : Dp} (h : p.ok) : ∀ c ∈ p.cs, OkS c := fun c hc => isNm_ok (h.vc c hc)
theorem mm_ok {ps : List Pr} (h : ∀ r ∈ ps, OkS r.n ∧ OkS r.lo ∧ OkS r.hi) : ∀ r ∈ ps.map Pr.mm, OkS r.n ∧ OkS r.lo ∧ OkS r.hi := fun r hr => by
  obtain ⟨q, hq, rfl⟩ := List.mem_map.mp hr
  obtain ⟨h1, h2, h3⟩ := h q hq
  refine ⟨h1, ?_, ?_⟩
  · rcases minS_mem q.lo q.hi with e | e
    · show OkS (minS q.lo q.hi); rw [e]; exact h2
    · show OkS (minS q.lo q.hi); rw [e]; exact h3
  · rcases maxS_mem q.lo q.hi with e | e
    · show OkS (maxS q.lo q.hi); rw [e]; exact h2
    · show OkS (maxS q.lo q.hi); rw [e]; exact h3
def Dp.kn (p : Dp) (i : Int) : List Str := if i = 0 then srtS p.cs else if i = 1 then srtS (p.ps.map Pr.n) else srtS (p.ds.map Dv.n)
def m_law_known : MP := fun ds k => ∃ (p : Dp) (i : Int), ds = [p.told, .int i] ∧ p.ok ∧ (i = 0 ∨ i = 1 ∨ i = 2) ∧ k (.own (.lst ((p.kn i).map D.str)))
theorem len_law_known : ∀ ds κ, m_law_known ds κ → ds.length = 2 := by rintro _ _ ⟨_, _, rfl, _⟩; rfl
theorem mono_law_known : ∀ ds k k', (∀ b, k b → k' b) → m_law_known ds k → m_law_known ds k' := fun _ _ _ f ⟨c, r, e, h0, h1, h⟩ => ⟨c, r, e, h0, h1, f _ h⟩
def N_law_known : List Str := ["_law_parts", "_law_number", "_law_row"]
def T_law_known_0_1 : DS :=
    (dRet (dCl sortAD (dCons (dFz (dLc (dISq (dFz (dOp ixD (dVarQ 0) (dVarQ 1)))) (dGN 2) dYes (dFz (dOp ixD (dVarQ 2) (dC (.int 0)))) [2])) dNil)))
def T_law_known_1_0 : DS :=
    (dRet (dCl sortAD (dCons (dFz (dCl lstCD (dCons (dFz (dOp ixD (dVarQ 0) (dC (.int 0)))) dNil))) dNil)))
def T_law_known_0_0 : DS :=
    dSeq (dIf (dTest (dOp (eqD false) (dVarQ 1) (dC (.int 0))))
    T_law_known_1_0
    dNext)
    T_law_known_0_1
abbrev T_law_known : DS := T_law_known_0_0
theorem rd_law_known : ∀ ds κ, m_law_known ds κ → T_law_known ⟨fun _ => κ (.fro .non), rtP κ, fun _ => False, fun _ => False, fun _ _ => False⟩ ⟨startD N_law_known ds, none⟩ := by
  rintro ds κ ⟨p, i, rfl, ok, hi, h⟩
  rcases hi with rfl | rfl | rfl
  · walk_at "w"
    walk_at "g"
    refine ⟨_, rfl, ?_⟩
    walk_at "w"
    refine ⟨ok_strs ok.sc, ?_⟩
    rw [srt_strs]
    exact h
  · walk_at "w"
    walk_at "g"
    refine ⟨_, rfl, ?_⟩
    walk_at "w"
    refine lcM (val := fun r : Pr => .str r.n) (by have := ok.lp; omega) ?_ fun r N hr hN => ?_
    · refine ⟨?_, ?_⟩
      · have := ok_strs (ws := p.ps.map Pr.n) fun w hw => by
          obtain ⟨r, hr, rfl⟩ := List.mem_map.mp hw
          exact (ok.sp r hr).1
        rw [List.map_map] at this
        exact this
      · have := srt_strs (p.ps.map Pr.n)
        rw [List.map_map] at this
        rw [show (p.ps.map fun r : Pr => D.str r.n) = p.ps.map (D.str ∘ Pr.n) from rfl, this]
        exact h
    · walk_at "w"
      exact ⟨_, rfl, hN⟩
  · walk_at "w"
    walk_at "g"
    refine ⟨_, rfl, ?_⟩
    walk_at "w"
    refine lcM (val := fun r : Dv => .str r.n) (by have := ok.ld; omega) ?_ fun r N hr hN => ?_
    · refine ⟨?_, ?_⟩
      · have := ok_strs (ws := p.ds.map Dv.n) fun w hw => by
          obtain ⟨r, hr, rfl⟩ := List.mem_map.mp hw
          exact (ok.sd r hr).1
        rw [List.map_map] at this
        exact this
      · have := srt_strs (p.ds.map Dv.n)
        rw [List.map_map] at this
        rw [show (p.ds.map fun r : Dv => D.str r.n) = p.ds.map (D.str ∘ Dv.n) from rfl, this]
        exact h
    · walk_at "w"
      exact ⟨_, rfl, hN⟩
def m_law_entries : MP := fun ds k => ∃ (p : Dp), ds = [p.told] ∧ p.ok ∧ k (.own (.lst (p.norm.ps.map Pr.d)))
theorem len_law_entries : ∀ ds κ, m_law_entries ds κ → ds.length = 1 := by rintro _ _ ⟨_, rfl, _⟩; rfl
theorem mono_law_entries : ∀ ds k k', (∀ b, k b → k' b) → m_law_entries ds k → m_law_entries ds k' := fun _ _ _ f ⟨c, e, h0, h⟩ => ⟨c, e, h0, f _ h⟩
def N_law_entries : List Str := ["_law_parts", "_law_row"]
def T_law_entries_0_0 : DS :=
    (dRet (dCl sortAD (dCons (dFz (dLc (dISq (dFz (dOp ixD (dVarQ 0) (dC (.int 1))))) (dGN 1) dYes (dTup (dCons (dFz (dOp ixD (dVarQ 1) (dC (.int 0)))) (dCons (dFz (dCl (two2D minI minS) (dCons (dFz (dOp ixD (dVarQ 1) (dC (.int 1)))) (dCons (dFz (dOp ixD (dVarQ 1) (dC (.int 2)))) dNil)))) (dCons (dFz (dCl (two2D maxI maxS) (dCons (dFz (dOp ixD (dVarQ 1) (dC (.int 1)))) (dCons (dFz (dOp ixD (dVarQ 1) (dC (.int 2)))) dNil)))) (dCons (dFz (dOp ixD (dVarQ 1) (dC (.int 3)))) dNil))))) [1])) dNil)))
abbrev T_law_entries : DS := T_law_entries_0_0
theorem rd_law_entries : ∀ ds κ, m_law_entries ds κ → T_law_entries ⟨fun _ => κ (.fro .non), rtP κ, fun _ => False, fun _ => False, fun _ _ => False⟩ ⟨startD N_law_entries ds, none⟩ := by
  rintro ds κ ⟨p, rfl, ok, h⟩
  walk_at "w"
  refine ⟨_, rfl, ?_⟩
  walk_at "w"
  refine lcM (val := fun r : Pr => r.mm.d) (by have := ok.lp; omega) ?_ fun r N hr hN => ?_
  · have e : (p.ps.map fun r : Pr => r.mm.d) = (p.ps.map Pr.mm).map Pr.d := by rw [List.map_map]; rfl
    rw [e]
    refine ⟨ok_pr (mm_ok ok.sp), ?_⟩
    rw [srt_pr (by rw [mm_names]; exact ok.np)]
    exact h
  · walk_at "w"
    refine ⟨_, rfl, ?_⟩
    walk_at "w"
    refine ⟨_, rfl, ?_⟩
    walk_at "w"
    refine ⟨_, rfl, ?_⟩
    walk_at "w"
    refine ⟨_, rfl, ?_⟩
    walk_at "w"
    refine ⟨_, rfl, ?_⟩
    walk_at "w"
    refine ⟨_, rfl, ?_⟩
    walk_at "w"
    exact ⟨szl (by show 4 ≤ _; omega), hN⟩
def m_law_make : MP := fun ds k => ∃ (p : Dp), ds = [p.told] ∧ p.good ∧ k (.own (.ins "Deep" p.norm.fs))
theorem len_law_make : ∀ ds κ, m_law_make ds κ → ds.length = 1 := by rintro _ _ ⟨_, rfl, _⟩; rfl
theorem mono_law_make : ∀ ds k k', (∀ b, k b → k' b) → m_law_make ds k → m_law_make ds k' := fun _ _ _ f ⟨c, e, h0, h⟩ => ⟨c, e, h0, f _ h⟩
def N_law_make : List Str := ["_law_parts"]
def T_law_make_0_0 : DS :=
    (dRet (dMkN "Deep" 3 1 [] m_Deep_init (dCons (dFz (dCl lstCD (dCons (dFz (dOp ixD (dVarQ 0) (dC (.int 0)))) dNil))) (dCons (dFz (dCl lstCD (dCons (dFz (dOp ixD (dVarQ 0) (dC (.int 1)))) dNil))) (dCons (dFz (dCl lstCD (dCons (dFz (dOp ixD (dVarQ 0) (dC (.int 2)))) dNil))) dNil))) (dCons (dFz (dOp ixD (dVarQ 0) (dC (.int 3)))) dNil)))
abbrev T_law_make : DS := T_law_make_0_0
theorem logS {i : Int} (h : 0 ≤ i) (h2 : i ≤ 100000) : i.natAbs.log2 < 1920 := by
  have e : i = (i.natAbs : Nat) := by omega
  rw [e]
  exact log_nat (by omega)
theorem rd_law_make : ∀ ds κ, m_law_make ds κ → T_law_make ⟨fun _ => κ (.fro .non), rtP κ, fun _ => False, fun _ => False, fun _ _ => False⟩ ⟨startD N_law_make ds, none⟩ := by
  rintro ds κ ⟨p, rfl, ok, h⟩
  walk_at "w"
  refine ⟨_, rfl, ?_⟩
  walk_at "w"
  refine ⟨_, rfl, ?_⟩
  walk_at "w"
  refine ⟨_, rfl, ?_⟩
  walk_at "w"
  refine ⟨_, rfl, ?_⟩
  walk_at "w"
  refine ⟨rfl, rfl, p.cs, p.ps.map Pr.toPa, p.ds, .int p.rope, ?_, fun w hw => isNm_tb (ok.vc w hw), by have := ok.lc; omega, fun q hq => ?_, by rw [List.length_map]; have := ok.lp; omega, fun q hq => ?_, by have := ok.ld; omega, .inr ⟨_, rfl, ?_⟩, ?_⟩
  · show [D.lst (p.cs.map D.str), .lst (p.ps.map Pr.d), .lst (p.ds.map Dv.d), .int p.rope] = _
    rw [List.map_map]
    rfl
  · obtain ⟨r, hr, rfl⟩ := List.mem_map.mp hq
    obtain ⟨h1, h2, h3, h4⟩ := ok.vp r hr
    exact ⟨isNm_tb h1, isNm_tb (ok.vc _ h2), isNm_tb (ok.vc _ h3), .inr ⟨r.w, rfl, logS (by omega) (by omega)⟩⟩
  · obtain ⟨h1, h2⟩ := ok.vd q hq
    exact ⟨isNm_tb h1, isNm_tb (ok.vc _ h2)⟩
  · have := ok.ro
    exact logS (by omega) (by omega)
  · rw [cDeep_ok ok]
    exact h

/-! ### == of what holds no Bool -/
mutual
def D.ix : D → Bool
  | .non => true
  | .int _ => true
  | .str _ => true
  | .lst xs => ixL xs
  | .tup xs => ixL xs
  | _ => false
def ixL : List D → Bool
  | [] => true
  | x :: xs => x.ix && ixL xs
end
mutual
theorem ix_eqv : ∀ a b : D, a.ix = true → b.ix = true → (PyData.eqv a.py b.py = true ↔ a = b)
  | .non, b, _, hb => by cases b <;> simp [D.py, PyData.eqv, D.ix] at *
  | .int _, b, _, hb => by cases b <;> simp [D.py, PyData.eqv, D.ix] at *
  | .str _, b, _, hb => by cases b <;> simp [D.py, PyData.eqv, D.ix] at *
  | .lst xs, b, ha, hb => by
    cases b with
    | lst ys =>
      rw [D.ix] at ha hb
      rw [D.py, D.py, PyData.eqv, ixL_eqv xs ys ha hb]
      simp
    | _ => simp [D.py, PyData.eqv, D.ix] at *
  | .tup xs, b, ha, hb => by
    cases b with
    | tup ys =>
      rw [D.ix] at ha hb
      rw [D.py, D.py, PyData.eqv, ixL_eqv xs ys ha hb]
      simp
    | _ => simp [D.py, PyData.eqv, D.ix] at *
  | .bl _, _, ha, _ => by simp [D.ix] at ha
  | .dic _, _, ha, _ => by simp [D.ix] at ha
  | .ins _ _, _, ha, _ => by simp [D.ix] at ha
  | .scr _, _, ha, _ => by simp [D.ix] at ha
  | .exc _ _ _ _, _, ha, _ => by simp [D.ix] at ha
  | .ptr _, _, ha, _ => by simp [D.ix] at ha
theorem ixL_eqv : ∀ a b : List D, ixL a = true → ixL b = true → (PyData.eqvAll (pyL a) (pyL b) = true ↔ a = b)
  | [], [], _, _ => by simp [pyL, PyData.eqvAll]
  | [], _ :: _, _, _ => by simp [pyL, PyData.eqvAll]
  | _ :: _, [], _, _ => by simp [pyL, PyData.eqvAll]
  | x :: xs, y :: ys, ha, hb => by
    rw [ixL, Bool.and_eq_true] at ha hb
    rw [pyL, pyL, PyData.eqvAll, Bool.and_eq_true, ix_eqv x y ha.1 hb.1, ixL_eqv xs ys ha.2 hb.2]
    simp
end
theorem ixL_of {xs : List D} (h : ∀ x ∈ xs, x.ix = true) : ixL xs = true := by
  induction xs with
  | nil => rfl
  | cons x r ih =>
    rw [ixL, h x List.mem_cons_self, ih fun z hz => h z (List.mem_cons_of_mem _ hz)]
    rfl
theorem ix_strs (ws : List Str) : (D.lst (ws.map D.str)).ix = true := by
  rw [D.ix]
  refine ixL_of fun x hx => ?_
  obtain ⟨w, _, rfl⟩ := List.mem_map.mp hx
  rfl
theorem ix_prs (ps : List Pr) : (D.lst (ps.map Pr.d)).ix = true := by
  rw [D.ix]
  refine ixL_of fun x hx => ?_
  obtain ⟨w, _, rfl⟩ := List.mem_map.mp hx
  rfl
theorem ix_dvs (ps : List Dv) : (D.lst (ps.map Dv.d)).ix = true := by
  rw [D.ix]
  refine ixL_of fun x hx => ?_
  obtain ⟨w, _, rfl⟩ := List.mem_map.mp hx
  rfl
theorem depth_all {n : Nat} : ∀ {l : List PyData}, (∀ d ∈ l, d.depth ≤ n) → PyData.depthAll l ≤ n
  | [], _ => by simp [PyData.depthAll]
  | x :: l, h => by
    rw [PyData.depthAll]
    have h1 := h x List.mem_cons_self
    have h2 := depth_all (l := l) fun d hd => h d (List.mem_cons_of_mem _ hd)
    omega
theorem SrtOk.cmp {xs : List D} (h : SrtOk xs) : D.cmp (.lst xs) := by
  show PySem.SeqAt.shaped (D.py (.lst xs)) = true
  rw [D.py]
  unfold PySem.SeqAt.shaped
  rw [PyData.canLay0, h.ly, PyData.depth]
  have := depth_all h.dp
  simp
  omega
theorem inj_map {α : Type} {f : α → D} (h : ∀ a b, f a = f b → a = b) {xs ys : List α} : D.lst (xs.map f) = D.lst (ys.map f) ↔ xs = ys := by
  constructor
  · intro e
    have e := D.lst.inj e
    exact (List.map_inj_right h).mp e
  · rintro rfl
    rfl
theorem Pr.d_inj (a b : Pr) (h : a.d = b.d) : a = b := by
  cases a
  cases b
  unfold Pr.d at h
  simp at h
  simp [h]
theorem Dv.d_inj (a b : Dv) (h : a.d = b.d) : a = b := by
  cases a
  cases b
  unfold Dv.d at h
  simp at h
  simp [h]
theorem bb {b : Bool} {p : Prop} (h : b = true ↔ p) : (b = false ↔ ¬ p) := by
  rw [← h]
  cases b <;> simp
def m_law_same_deep : MP := fun ds k => ∃ (p q : Dp), ds = [p.told, q.told] ∧ p.ok ∧ q.ok ∧ ∀ b : Bool, (b = true ↔ p.norm = q.norm) → k (.fro (.bl b))
theorem len_law_same_deep : ∀ ds κ, m_law_same_deep ds κ → ds.length = 2 := by rintro _ _ ⟨_, _, rfl, _⟩; rfl
theorem mono_law_same_deep : ∀ ds k k', (∀ b, k b → k' b) → m_law_same_deep ds k → m_law_same_deep ds k' := fun _ _ _ f ⟨c, q, e, h0, h1, h⟩ => ⟨c, q, e, h0, h1, fun b z => f _ (h b z)⟩
def N_law_same_deep : List Str := ["_law_parts", "_law_others"]
def T_law_same_deep_0_1 : DS :=
    (dRet (dAndV (dFz (dOp (eqD false) (dFz (dCl sortAD (dCons (dFz (dCl lstCD (dCons (dFz (dOp ixD (dVarQ 0) (dC (.int 0)))) dNil))) dNil))) (dFz (dCl sortAD (dCons (dFz (dCl lstCD (dCons (dFz (dOp ixD (dVarQ 1) (dC (.int 0)))) dNil))) dNil))))) (dOp (eqD false) (dFz (dCl sortAD (dCons (dFz (dCl lstCD (dCons (dFz (dOp ixD (dVarQ 0) (dC (.int 2)))) dNil))) dNil))) (dFz (dCl sortAD (dCons (dFz (dCl lstCD (dCons (dFz (dOp ixD (dVarQ 1) (dC (.int 2)))) dNil))) dNil))))))
def T_law_same_deep_1_0 : DS :=
    (dRet (dUp (dC (.bl false))))
def T_law_same_deep_0_0 : DS :=
    dSeq (dIf (dOr (dTest (dOp (eqD true) (dFz (dOp ixD (dVarQ 0) (dC (.int 3)))) (dFz (dOp ixD (dVarQ 1) (dC (.int 3)))))) (dTest (dOp (eqD true) (dFz (dCall m_law_entries [] (dCons (dVar 0) dNil))) (dFz (dCall m_law_entries [] (dCons (dVar 1) dNil))))))
    T_law_same_deep_1_0
    dNext)
    T_law_same_deep_0_1
abbrev T_law_same_deep : DS := T_law_same_deep_0_0
theorem rd_law_same_deep : ∀ ds κ, m_law_same_deep ds κ → T_law_same_deep ⟨fun _ => κ (.fro .non), rtP κ, fun _ => False, fun _ => False, fun _ _ => False⟩ ⟨startD N_law_same_deep ds, none⟩ := by
  rintro ds κ ⟨p, q, rfl, okp, okq, h⟩
  have no : ¬ p.norm = q.norm → κ (.fro (.bl false)) := fun z => h false ⟨(fun e => nomatch e), fun e => absurd e z⟩
  walk_at "w"
  refine ⟨_, rfl, ?_⟩
  walk_at "w"
  refine ⟨_, rfl, ?_⟩
  walk_at "w"
  refine ⟨fun z => ?_, fun z => ?_⟩
  · have z : ¬ p.rope = q.rope := by simpa using z
    walk_at "w"
    walk_at "g"
    exact no fun e => z (show p.norm.rope = q.norm.rope from congrArg Dp.rope e)
  have zr : p.rope = q.rope := by simpa using z
  walk_at "w"
  refine ⟨p, rfl, okp, ?_⟩
  walk_at "w"
  refine ⟨q, rfl, okq, ?_⟩
  walk_at "w"
  have c1 := (ok_pr (ps := p.norm.ps) fun r hr => mm_ok okp.sp r (srtR_mem.mp hr)).cmp
  have c2 := (ok_pr (ps := q.norm.ps) fun r hr => mm_ok okq.sp r (srtR_mem.mp hr)).cmp
  refine ⟨c1, c2, ?_⟩
  have ei : eqB (D.lst (p.norm.ps.map Pr.d)) (D.lst (q.norm.ps.map Pr.d)) = true ↔ p.norm.ps = q.norm.ps := (ix_eqv _ _ (ix_prs _) (ix_prs _)).trans (inj_map Pr.d_inj)
  walk_at "w"
  refine ⟨fun z => ?_, fun z => ?_⟩
  · have z : (!eqB (D.lst (p.norm.ps.map Pr.d)) (D.lst (q.norm.ps.map Pr.d))) = true := z
    rw [Bool.not_eq_true', bb ei] at z
    walk_at "w"
    exact no fun e => z (congrArg Dp.ps e)
  have z : (!eqB (D.lst (p.norm.ps.map Pr.d)) (D.lst (q.norm.ps.map Pr.d))) = false := z
  rw [Bool.not_eq_false', ei] at z
  walk_at "w"
  refine ⟨_, rfl, ?_⟩
  walk_at "w"
  refine ⟨ok_strs okp.sc, ?_⟩
  rw [srt_strs]
  walk_at "w"
  refine ⟨_, rfl, ?_⟩
  walk_at "w"
  refine ⟨ok_strs okq.sc, ?_⟩
  rw [srt_strs]
  walk_at "w"
  have c3 := (ok_strs (ws := srtS p.cs) fun r hr => okp.sc r (srtS_mem.mp hr)).cmp
  have c4 := (ok_strs (ws := srtS q.cs) fun r hr => okq.sc r (srtS_mem.mp hr)).cmp
  refine ⟨c3, c4, ?_⟩
  have e2 : eqB (D.lst ((srtS p.cs).map D.str)) (D.lst ((srtS q.cs).map D.str)) = true ↔ srtS p.cs = srtS q.cs := (ix_eqv _ _ (ix_strs _) (ix_strs _)).trans (inj_map fun _ _ => D.str.inj)
  walk_at "w"
  refine ⟨fun z2 => ?_, fun z2 => ?_⟩
  · have z2 : eqB (D.lst ((srtS p.cs).map D.str)) (D.lst ((srtS q.cs).map D.str)) = true := z2
    rw [e2] at z2
    walk_at "w"
    refine ⟨_, rfl, ?_⟩
    walk_at "w"
    refine ⟨ok_dv okp.sd, ?_⟩
    rw [srt_dv okp.nd]
    walk_at "w"
    refine ⟨_, rfl, ?_⟩
    walk_at "w"
    refine ⟨ok_dv okq.sd, ?_⟩
    rw [srt_dv okq.nd]
    walk_at "w"
    have c5 := (ok_dv (ds := srtR Dv.n p.ds) fun r hr => okp.sd r (srtR_mem.mp hr)).cmp
    have c6 := (ok_dv (ds := srtR Dv.n q.ds) fun r hr => okq.sd r (srtR_mem.mp hr)).cmp
    refine ⟨c5, c6, ?_⟩
    have e3 : eqB (D.lst ((srtR Dv.n p.ds).map Dv.d)) (D.lst ((srtR Dv.n q.ds).map Dv.d)) = true ↔ srtR Dv.n p.ds = srtR Dv.n q.ds := (ix_eqv _ _ (ix_dvs _) (ix_dvs _)).trans (inj_map Dv.d_inj)
    refine h _ (e3.trans ⟨fun e => ?_, fun e => congrArg Dp.ds e⟩)
    show Dp.mk _ _ _ _ = Dp.mk _ _ _ _
    rw [z2, e, zr, show srtR Pr.n (p.ps.map Pr.mm) = srtR Pr.n (q.ps.map Pr.mm) from z]
  · have z2 : eqB (D.lst ((srtS p.cs).map D.str)) (D.lst ((srtS q.cs).map D.str)) = false := z2
    rw [bb e2] at z2
    walk_at "w"
    refine h _ ⟨fun e => ?_, fun e => absurd (congrArg Dp.cs e) z2⟩
    have e : eqB (D.lst ((srtS p.cs).map D.str)) (D.lst ((srtS q.cs).map D.str)) = true := e
    exact absurd (e2.mp e) z2
/-! ### the same, told in another way -/
def Pr.swp (r : Pr) : Pr := ⟨r.n, r.hi, r.lo, r.w⟩
theorem minS_comm (x y : Str) : minS x y = minS y x := by
  unfold minS
  by_cases h : ltS y x
  · have h2 : ¬ ltS x y = true := fun z => by
      have a : leS x y = false := by rw [leS_lt, h]; rfl
      have b : leS y x = false := by rw [leS_lt, z]; rfl
      have := leS_total x y
      rw [a, b] at this
      cases this
    rw [if_pos h, if_neg h2]
  · by_cases h2 : ltS x y
    · rw [if_neg h, if_pos h2]
    · rw [if_neg h, if_neg h2]
      exact leS_anti (by rw [leS_lt]; simpa using h) (by rw [leS_lt]; simpa using h2)
theorem maxS_comm (x y : Str) : maxS x y = maxS y x := by
  unfold maxS
  by_cases h : ltS x y
  · have h2 : ¬ ltS y x = true := fun z => by
      have a : leS y x = false := by rw [leS_lt, h]; rfl
      have b : leS x y = false := by rw [leS_lt, z]; rfl
      have := leS_total x y
      rw [a, b] at this
      cases this
    rw [if_pos h, if_neg h2]
  · by_cases h2 : ltS y x
    · rw [if_neg h, if_pos h2]
    · rw [if_neg h, if_neg h2]
      exact leS_anti (by rw [leS_lt]; simpa using h2) (by rw [leS_lt]; simpa using h)
theorem swp_mm (r : Pr) : r.swp.mm = r.mm := by
  show Pr.mk _ _ _ _ = Pr.mk _ _ _ _
  rw [minS_comm r.swp.lo, maxS_comm r.swp.lo]
  rfl
theorem perm_map {α : Type} {f : α → D} (g : D → α) (hg : ∀ a, g (f a) = a) {ys : List D} {xs : List α} (h : ys.Perm (xs.map f)) : ∃ zs : List α, ys = zs.map f ∧ zs.Perm xs := by
  have e : ∀ l : List α, (l.map f).map g = l := fun l => by
    rw [List.map_map]
    induction l with
    | nil => rfl
    | cons a l ih => rw [List.map_cons, ih]; show g (f a) :: l = _; rw [hg]
  have q := h.map g
  rw [e] at q
  refine ⟨ys.map g, ?_, q⟩
  have hm : ∀ y ∈ ys, f (g y) = y := fun y hy => by
    obtain ⟨x, _, rfl⟩ := List.mem_map.mp (h.mem_iff.mp hy)
    rw [hg]
  rw [List.map_map]
  have main : ∀ l : List D, (∀ y ∈ l, f (g y) = y) → l = l.map (f ∘ g) := fun l => by
    induction l with
    | nil => exact fun _ => rfl
    | cons a l ih =>
      intro hl
      rw [List.map_cons, ← ih fun z hz => hl z (List.mem_cons_of_mem _ hz)]
      show a :: l = f (g a) :: l
      rw [hl a List.mem_cons_self]
  exact main ys hm
def Pr.g : D → Pr
  | .tup [.str n, .str a, .str b, .int w] => ⟨n, a, b, w⟩
  | _ => ⟨"", "", "", 0⟩
def Dv.g : D → Dv
  | .tup [.str n, .str a] => ⟨n, a⟩
  | _ => ⟨"", ""⟩
def m_law_retold : MS := fun ds S k => ∃ p : Dp, ds = [p.told] ∧ p.good ∧ ∀ (q : Dp) S', q.good → q.norm = p.norm → k (.fro q.told) S'
theorem len_law_retold : ∀ ds S κ, m_law_retold ds S κ → ds.length = 1 := by rintro _ _ _ ⟨_, rfl, _⟩; rfl
theorem mono_law_retold : ∀ ds S k k', (∀ b S, k b S → k' b S) → m_law_retold ds S k → m_law_retold ds S k' := fun _ _ _ _ f ⟨p, e, h0, h⟩ => ⟨p, e, h0, fun q S' a b => f _ _ (h q S' a b)⟩
def N_law_retold : List Str := ["_law_parts", "_law_ways", "_law_row"]
def T_law_retold_0_2 : DS :=
    (dRet (dUp (dTup (dCons (dFz (dCallS m_law_mixed 0 (dCons (dFz (dOp ixD (dVarQ 1) (dC (.int 0)))) dNil))) (dCons (dVar 2) (dCons (dFz (dCallS m_law_mixed 0 (dCons (dFz (dOp ixD (dVarQ 1) (dC (.int 2)))) dNil))) (dCons (dFz (dOp ixD (dVarQ 1) (dC (.int 3)))) dNil)))))))
def T_law_retold_1_1 : DS :=
    (dApp 2 (dVar 3))
def T_law_retold_2_0 : DS :=
    (dSet 3 (dUp (dTup (dCons (dFz (dOp ixD (dVarQ 3) (dC (.int 0)))) (dCons (dFz (dOp ixD (dVarQ 3) (dC (.int 2)))) (dCons (dFz (dOp ixD (dVarQ 3) (dC (.int 1)))) (dCons (dFz (dOp ixD (dVarQ 3) (dC (.int 3)))) dNil)))))))
def T_law_retold_1_0 : DS :=
    dSeq (dIf (dTest (dOp (eqD false) (dFz (dCallS m_law_take 0 (dCons (dC (.int 2)) dNil))) (dC (.int 1))))
    T_law_retold_2_0
    dNext)
    T_law_retold_1_1
def T_law_retold_0_1 : DS :=
    dSeq (dFor (dISq (dFz (dCallS m_law_mixed 0 (dCons (dFz (dOp ixD (dVarQ 1) (dC (.int 1)))) dNil)))) (dGN 3)
    T_law_retold_1_0)
    T_law_retold_0_2
def T_law_retold_0_0 : DS :=
    dSeq (dSet 2 (dLst dNil))
    T_law_retold_0_1
abbrev T_law_retold : DS := T_law_retold_0_0
theorem rd_law_retold : ∀ ds S κ, m_law_retold ds S κ → T_law_retold ⟨fun Γ => rtS κ (.fro .non) Γ.S, rtS κ, fun _ => False, fun _ => False, fun _ _ => False⟩ ⟨some .sto :: startD N_law_retold ds, some S⟩ := by
  rintro ds S κ ⟨p, rfl, ok, h⟩
  walk_at "w"
  walk_at "g"
  refine ⟨_, rfl, ?_⟩
  walk_at "w"
  refine ⟨_, rfl, by rw [List.length_map]; have := ok.lp; omega, fun ys S1 hp => ?_⟩
  obtain ⟨rs, rfl, hq⟩ := perm_map Pr.g (fun _ => rfl) hp
  clear hp
  have hp := hq
  clear hq
  have rl : rs.length ≤ 14 := by rw [hp.length_eq]; exact ok.lp
  walk_at "w"
  refine forL _ (fun i Γ => ∃ (outs : List Pr) (S2 : Sto) (x3 : Option B), Γ = ⟨[bS, some (.fro p.told), ol (outs.map Pr.d), x3], some S2⟩ ∧ outs.length = i ∧ outs.map Pr.mm = (rs.take i).map Pr.mm ∧ ∀ o ∈ outs, ∃ r ∈ p.ps, o = r ∨ o = r.swp) ?_ ?_ _ ⟨[], S1, _, rfl, rfl, rfl, fun o ho => nomatch ho⟩
  · rintro Γ ⟨outs, S2, x3, rfl, ol, om, oo⟩
    rw [List.length_map] at ol om
    rw [List.take_length] at om
    walk_at "w"
    refine ⟨_, rfl, ?_⟩
    walk_at "w"
    refine ⟨_, rfl, by rw [List.length_map]; have := ok.lc; omega, fun zs S3 hz => ?_⟩
    obtain ⟨cs, rfl, hc⟩ := perm_strs hz
    walk_at "w"
    refine ⟨_, rfl, ?_⟩
    walk_at "w"
    refine ⟨_, rfl, by rw [List.length_map]; have := ok.ld; omega, fun vs S4 hv => ?_⟩
    obtain ⟨dv, rfl, hd⟩ := perm_map Dv.g (fun _ => rfl) hv
    walk_at "w"
    refine ⟨_, rfl, ?_⟩
    walk_at "w"
    refine ⟨szl (by show 4 ≤ _; omega), ?_⟩
    have en : outs.map Pr.n = rs.map Pr.n := by rw [← mm_names outs, om, mm_names]
    refine h ⟨cs, outs, dv, p.rope⟩ S4 ⟨⟨hc.nodup_iff.mpr ok.nc, ?_, fun c q => ok.vc c (hc.mem_iff.mp q), ?_, ?_, fun o ho => ?_, ?_, ?_, fun d q => ?_, ok.ro⟩, fun o ho => ?_⟩ ?_
    · show cs.length ≤ 10
      rw [hc.length_eq]
      exact ok.lc
    · show (outs.map Pr.n).Nodup
      rw [en]
      exact (hp.map Pr.n).nodup_iff.mpr ok.np
    · show outs.length ≤ 14
      omega
    · obtain ⟨r, hr, ho⟩ := oo o ho
      obtain ⟨a1, a2, a3, a4⟩ := ok.vp r hr
      have b2 := hc.mem_iff.mpr a2
      have b3 := hc.mem_iff.mpr a3
      rcases ho with rfl | rfl
      · exact ⟨a1, b2, b3, a4⟩
      · exact ⟨a1, b3, b2, a4⟩
    · exact (hd.map Dv.n).nodup_iff.mpr ok.nd
    · show dv.length ≤ 6
      rw [hd.length_eq]
      exact ok.ld
    · obtain ⟨a1, a2⟩ := ok.vd d (hd.mem_iff.mp q)
      exact ⟨a1, hc.mem_iff.mpr a2⟩
    · obtain ⟨r, hr, ho⟩ := oo o ho
      rcases ho with rfl | rfl
      · exact ok.ne _ hr
      · exact fun e => ok.ne r hr e.symm
    · show Dp.mk _ _ _ _ = Dp.mk _ _ _ _
      rw [show srtS cs = srtS p.cs from srtS_of_perm hc, show srtR Dv.n dv = srtR Dv.n p.ds from srtR_of_perm ok.nd hd]
      have e2 : srtR Pr.n (outs.map Pr.mm) = srtR Pr.n (p.ps.map Pr.mm) := by
        rw [om]
        exact srtR_of_perm (by rw [mm_names]; exact ok.np) (hp.map Pr.mm)
      rw [show srtR Pr.n ((Dp.mk cs outs dv p.rope).ps.map Pr.mm) = srtR Pr.n (p.ps.map Pr.mm) from e2]
  · rintro i d Γ N hd ⟨outs, S2, x3, rfl, ol, om, oo⟩ hN
    obtain ⟨r, hr, rfl⟩ := map_at hd
    have hi := (List.getElem?_eq_some_iff.mp hr).1
    have e : rs.take (i + 1) = rs.take i ++ [r] := by rw [List.take_add_one, hr]; rfl
    have hm := hp.mem_iff.mp ((List.mem_of_getElem? hr : r ∈ rs))
    have fin : ∀ (o : Pr) (S3 : Sto), o = r ∨ o = r.swp → N ⟨[bS, some (.fro p.told), some (.own (.lst ((outs ++ [o]).map Pr.d))), some (.fro o.d)], some S3⟩ := fun o S3 ho => by
      refine hN _ ⟨outs ++ [o], S3, _, rfl, by rw [List.length_append, ol]; rfl, ?_, fun z hz => ?_⟩
      · rw [e, List.map_append, List.map_append, om]
        congr 1
        show [o.mm] = [r.mm]
        rcases ho with rfl | rfl
        · rfl
        · rw [swp_mm]
      · rcases List.mem_append.mp hz with q | q
        · exact oo z q
        · rw [List.mem_singleton.mp q]
          exact ⟨r, hm, ho⟩
    walk_at "w"
    refine ⟨_, rfl, by decide, fun t S3 _ _ _ => ?_⟩
    walk_at "w"
    refine ⟨fun z => ?_, fun z => ?_⟩
    · walk_at "w"
      refine ⟨_, rfl, ?_⟩
      walk_at "w"
      refine ⟨_, rfl, ?_⟩
      walk_at "w"
      refine ⟨_, rfl, ?_⟩
      walk_at "w"
      refine ⟨_, rfl, ?_⟩
      walk_at "w"
      refine ⟨szl (by show 4 ≤ _; omega), ?_⟩
      walk_at "w"
      refine ⟨slt (by rw [List.length_map]; omega), ?_⟩
      have := fin r.swp S3 (.inr rfl)
      rw [List.map_append] at this
      exact this
    · walk_at "w"
      refine ⟨slt (by rw [List.length_map]; omega), ?_⟩
      have := fin r S3 (.inl rfl)
      rw [List.map_append] at this
      exact this

/-! ### a good Deep is drawn -/
theorem logB {i : Int} (h : i.natAbs ≤ 100000) : i.natAbs.log2 < 9000 := by
  by_cases h0 : i.natAbs = 0
  · rw [h0]; decide
  · exact (Nat.log2_lt h0).mpr (Nat.lt_of_le_of_lt h (Nat.lt_of_lt_of_le (by decide : 100000 < 2 ^ 17) (Nat.pow_le_pow_right (by decide) (by decide))))
/-- from the end -/
theorem atI_neg {α : Type} {xs : List α} {i : Int} {x : α} (h0 : i < 0) (h1 : -(xs.length : Int) ≤ i) (h : xs[(i + xs.length).toNat]? = some x) : atI xs i = some x := by
  unfold atI ixN
  rw [if_neg (by omega), if_pos h1]
  exact h
def m_law_good_deep : MS := fun ds S k => ds = [] ∧ ∀ (q : Dp) S', q.good → k (.fro q.told) S'
theorem len_law_good_deep : ∀ ds S κ, m_law_good_deep ds S κ → ds.length = 0 := by rintro _ _ _ ⟨rfl, _⟩; rfl
theorem mono_law_good_deep : ∀ ds S k k', (∀ b S, k b S → k' b S) → m_law_good_deep ds S k → m_law_good_deep ds S k' := fun _ _ _ _ f ⟨e, h⟩ => ⟨e, fun q S' a => f _ _ (h q S' a)⟩
def N_law_good_deep : List Str := ["_law_names_here", "_law_spots", "_law_many", "_law_ways", "_law_name", "_law_at", "_law_team", "_law_crew"]
def T_law_good_deep_0_7 : DS :=
    (dRet (dUp (dTup (dCons (dVar 2) (dCons (dVar 4) (dCons (dVar 8) (dCons (dFz (dCallS m_law_some 0 (dCons (dC (.int 1)) (dCons (dC (.int 12)) dNil)))) dNil)))))))
def T_law_good_deep_0_6 : DS :=
    dSeq (dFrzS [2] (dSet 8 (dLc (dISq (dVar 7)) (dGN 5) dYes (dTup (dCons (dVar 5) (dCons (dFz (dCallS m_law_pick 0 (dCons (dVar 2) dNil))) dNil))) [5])))
    T_law_good_deep_0_7
def T_law_good_deep_0_5 : DS :=
    dSeq (dSet 7 (dCallS m_law_names 0 (dCons (dFz (dOp mulD (dFz (dCallS m_law_some 0 (dCons (dC (.int 0)) (dCons (dC (.int 6)) dNil)))) (dFz (dCl intCD (dCons (dFz (dOp gtD (dVarQ 3) (dC (.int 0)))) dNil))))) dNil)))
    T_law_good_deep_0_6
def T_law_good_deep_1_1 : DS :=
    (dApp 4 (dTup (dCons (dVar 5) (dCons (dFz (dOp ixD (dVarQ 2) (dVarQ 6))) (dCons (dFz (dOp ixD (dVarQ 2) (dFz (dOp subD (dFz (dOp subD (dVarQ 6) (dC (.int 1)))) (dFz (dCallS m_law_take 0 (dCons (dFz (dOp subD (dVarQ 3) (dC (.int 1)))) dNil))))))) (dCons (dFz (dCallS m_law_some 0 (dCons (dC (.int 1)) (dCons (dC (.int 6)) dNil)))) dNil))))))
def T_law_good_deep_1_0 : DS :=
    dSeq (dSet 6 (dCallS m_law_take 0 (dCons (dVar 3) dNil)))
    T_law_good_deep_1_1
def T_law_good_deep_0_4 : DS :=
    dSeq (dFor (dISq (dFz (dCallS m_law_names 0 (dCons (dFz (dOp mulD (dFz (dCallS m_law_some 0 (dCons (dC (.int 0)) (dCons (dC (.int 14)) dNil)))) (dFz (dCl intCD (dCons (dFz (dOp gtD (dVarQ 3) (dC (.int 1)))) dNil))))) dNil)))) (dGN 5)
    T_law_good_deep_1_0)
    T_law_good_deep_0_5
def T_law_good_deep_0_3 : DS :=
    dSeq (dSet 4 (dLst dNil))
    T_law_good_deep_0_4
def T_law_good_deep_0_2 : DS :=
    dSeq (dSet 3 (dCl lenD (dCons (dVarQ 2) dNil)))
    T_law_good_deep_0_3
def T_law_good_deep_0_1 : DS :=
    dSeq (dSet 2 (dSl (dVarQ 1) dNoP (dPart (dFz (dCallS m_law_some 0 (dCons (dC (.int 0)) (dCons (dC (.int 10)) dNil)))))))
    T_law_good_deep_0_2
def T_law_good_deep_0_0 : DS :=
    dSeq (dSet 1 (dCallS m_law_names 0 (dCons (dC (.int 14)) dNil)))
    T_law_good_deep_0_1
abbrev T_law_good_deep : DS := T_law_good_deep_0_0
theorem rd_law_good_deep : ∀ ds S κ, m_law_good_deep ds S κ → T_law_good_deep ⟨fun Γ => rtS κ (.fro .non) Γ.S, rtS κ, fun _ => False, fun _ => False, fun _ _ => False⟩ ⟨some .sto :: startD N_law_good_deep ds, some S⟩ := by
  rintro ds S κ ⟨rfl, h⟩
  walk_at "w"
  refine ⟨14, rfl, by decide, by decide, fun w0 S1 l0 n0 v0 => ?_⟩
  walk_at "w"
  refine ⟨_, _, rfl, by decide, fun c S2 _ hc => ?_⟩
  have hc := hc (by decide)
  walk_at "w"
  walk_at "g"
  obtain ⟨c, rfl⟩ : ∃ n : Nat, c = (n : Int) := ⟨c.toNat, by omega⟩
  rw [cut_to, ← List.map_take]
  generalize ew : w0.take c = ws
  have lw : ws.length ≤ 10 := by rw [← ew, List.length_take]; omega
  have nw : ws.Nodup := by rw [← ew]; exact n0.sublist (List.take_sublist _ _)
  have vw : ∀ w ∈ ws, IsNm w := fun w hw => v0 w (by rw [← ew] at hw; exact List.mem_of_mem_take hw)
  clear ew
  show T_law_good_deep_0_4 _ ⟨[bS, ol (w0.map D.str), ol (ws.map D.str), bi ((ws.map D.str).length : Nat), ol [], none, none, none, none], some S2⟩
  rw [List.length_map]
  walk_at "w"
  refine ⟨_, _, rfl, by decide, fun a S3 _ ha => ?_⟩
  have ha := ha (by decide)
  walk_at "w"
  refine ⟨cmr (by split <;> decide), ?_⟩
  walk_at "w"
  have hb : 0 ≤ a * (if (fun i j => decide (j < i)) (↑ws.length : Int) 1 = true then 1 else 0) ∧ a * (if (fun i j => decide (j < i)) (↑ws.length : Int) 1 = true then 1 else 0) ≤ 14 ∧ (ws.length ≤ 1 → a * (if (fun i j => decide (j < i)) (↑ws.length : Int) 1 = true then 1 else 0) = 0) := by
    by_cases q : (1 : Int) < ws.length
    · rw [if_pos (decide_eq_true q)]
      exact ⟨by omega, by omega, fun z => by omega⟩
    · rw [if_neg (by simpa using q)]
      exact ⟨by omega, by omega, fun _ => by omega⟩
  refine ⟨_, rfl, hb.1, by omega, fun ns S4 ln nn vn => ?_⟩
  have l14 : ns.length ≤ 14 := by omega
  have l2 : ns ≠ [] → 2 ≤ ws.length := fun z => by
    by_cases q : ws.length ≤ 1
    · have := hb.2.2 q
      exact absurd (List.length_eq_zero_iff.mp (by omega)) z
    · omega
  clear hb ln
  walk_at "w"
  refine forL _ (fun i Γ => ∃ (rs : List Pr) (S2 : Sto) (x5 x6 : Option B), Γ = ⟨[bS, ol (w0.map D.str), ol (ws.map D.str), bi (ws.length : Nat), ol (rs.map Pr.d), x5, x6, none, none], some S2⟩ ∧ rs.length = i ∧ rs.map Pr.n = ns.take i ∧ ∀ r ∈ rs, IsNm r.n ∧ r.lo ∈ ws ∧ r.hi ∈ ws ∧ r.lo ≠ r.hi ∧ 1 ≤ r.w ∧ r.w ≤ 6) ?_ ?_ _ ⟨[], S4, _, _, rfl, rfl, rfl, fun o ho => nomatch ho⟩
  · rintro Γ ⟨rs, S5, x5, x6, rfl, rl, rn, rv⟩
    rw [List.length_map] at rl rn
    rw [List.take_length] at rn
    walk_at "w"
    refine ⟨_, _, rfl, by decide, fun t S6 _ ht => ?_⟩
    have ht := ht (by decide)
    walk_at "w"
    refine ⟨cmr (by split <;> decide), ?_⟩
    walk_at "w"
    have hb : 0 ≤ t * (if (fun i j => decide (j < i)) (↑ws.length : Int) 0 = true then 1 else 0) ∧ t * (if (fun i j => decide (j < i)) (↑ws.length : Int) 0 = true then 1 else 0) ≤ 6 ∧ (ws.length ≤ 0 → t * (if (fun i j => decide (j < i)) (↑ws.length : Int) 0 = true then 1 else 0) = 0) := by
      by_cases q : (0 : Int) < ws.length
      · rw [if_pos (decide_eq_true q)]
        exact ⟨by omega, by omega, fun z => by omega⟩
      · rw [if_neg (by simpa using q)]
        exact ⟨by omega, by omega, fun _ => by omega⟩
    refine ⟨_, rfl, hb.1, by omega, fun ts S7 ln nt vt => ?_⟩
    have l6 : ts.length ≤ 6 := by omega
    have l1 : ts ≠ [] → 1 ≤ ws.length := fun z => by
      by_cases q : ws.length ≤ 0
      · have := hb.2.2 q
        exact absurd (List.length_eq_zero_iff.mp (by omega)) z
      · omega
    clear hb ln
    walk_at "w"
    refine lcL _ (fun i acc S => ∃ (dv : List Dv) (S8 : Sto), S = some S8 ∧ acc = dv.map Dv.d ∧ dv.length = i ∧ dv.map Dv.n = ts.take i ∧ ∀ d ∈ dv, IsNm d.n ∧ d.h ∈ ws) ?_ ?_ _ ⟨[], S7, rfl, rfl, rfl, rfl, fun o ho => nomatch ho⟩
    · rintro acc S ⟨dv, S8, rfl, rfl, dl, dn, dq⟩
      rw [List.length_map] at dl dn
      rw [List.take_length] at dn
      walk_at "w"
      refine ⟨_, _, rfl, by decide, fun ro S9 _ hr => ?_⟩
      have hr := hr (by decide)
      walk_at "w"
      refine ⟨szl (by show 4 ≤ _; omega), ?_⟩
      refine h ⟨ws, rs, dv, ro⟩ S9 ⟨⟨nw, lw, vw, ?_, ?_, fun r hr => ?_, ?_, ?_, dq, hr⟩, fun r hr => (rv r hr).2.2.2.1⟩
      · show (rs.map Pr.n).Nodup
        rw [rn]; exact nn
      · show rs.length ≤ 14
        omega
      · obtain ⟨a1, a2, a3, _, a5⟩ := rv r hr
        exact ⟨a1, a2, a3, a5⟩
      · show (dv.map Dv.n).Nodup
        rw [dn]; exact nt
      · show dv.length ≤ 6
        omega
    · rintro i d acc S N hd ⟨dv, S8, rfl, rfl, dl, dn, dq⟩ hN
      obtain ⟨n, hn, rfl⟩ := map_at hd
      have hi := (List.getElem?_eq_some_iff.mp hn).1
      have e : ts.take (i + 1) = ts.take i ++ [n] := by rw [List.take_add_one, hn]; rfl
      have w1 := l1 fun z => by rw [z] at hi; simp at hi
      walk_at "w"
      refine ⟨fun _ => ?_, fun z => nomatch z⟩
      walk_at "w"
      refine .inl ⟨_, rfl, fun z => ?_, by show (ws.map D.str).length ≤ 1000; rw [List.length_map]; omega, fun d S9 hd => ?_⟩
      · have z : ws.map D.str = [] := z
        rw [List.map_eq_nil_iff] at z
        rw [z] at w1
        simp at w1
      · obtain ⟨x, hx, rfl⟩ := List.mem_map.mp hd
        walk_at "w"
        refine ⟨szl (by show 2 ≤ _; omega), slt (by rw [List.length_map]; omega), ?_⟩
        refine hN _ _ ⟨dv ++ [⟨n, x⟩], S9, rfl, by rw [List.map_append]; rfl, by rw [List.length_append, dl]; rfl, by rw [List.map_append, dn, e]; rfl, fun d hd => ?_⟩
        rcases List.mem_append.mp hd with q | q
        · exact dq d q
        · rw [List.mem_singleton.mp q]
          exact ⟨vt n (List.mem_of_getElem? hn), hx⟩
  · rintro i d Γ N hd ⟨rs, S5, x5, x6, rfl, rl, rn, rv⟩ hN
    obtain ⟨n, hn, rfl⟩ := map_at hd
    have hi := (List.getElem?_eq_some_iff.mp hn).1
    have e : ns.take (i + 1) = ns.take i ++ [n] := by rw [List.take_add_one, hn]; rfl
    have w2 := l2 fun z => by rw [z] at hi; simp at hi
    walk_at "w"
    refine ⟨_, rfl, logB (by omega), fun j S6 j0 j1 _ => ?_⟩
    have j1 := j1 (by omega)
    obtain ⟨j, rfl⟩ : ∃ n : Nat, j = (n : Int) := ⟨j.toNat, by omega⟩
    walk_at "w"
    obtain ⟨x, hx⟩ : ∃ x, ws[j]? = some x := ⟨_, List.getElem?_eq_getElem (by omega)⟩
    refine ⟨.str x, atI_nat (by rw [List.getElem?_map, hx]; rfl), ?_⟩
    walk_at "w"
    refine ⟨_, rfl, logB (by omega), fun t S7 t0 t1 _ => ?_⟩
    have t1 := t1 (by omega)
    walk_at "w"
    obtain ⟨y, hy, hxy⟩ : ∃ y, atI (ws.map D.str) ((j : Int) - 1 - t) = some (.str y) ∧ (y ∈ ws ∧ x ≠ y) := by
      have ne : ∀ (m : Nat) (y : Str), ws[m]? = some y → m ≠ j → x ≠ y := fun m y hm hne e => by
        subst e
        obtain ⟨b1, b2⟩ := List.getElem?_eq_some_iff.mp hm
        obtain ⟨b3, b4⟩ := List.getElem?_eq_some_iff.mp hx
        exact hne ((List.getElem_inj nw).mp (b2.trans b4.symm))
      by_cases q : 0 ≤ (j : Int) - 1 - t
      · obtain ⟨m, em⟩ : ∃ m : Nat, (j : Int) - 1 - t = (m : Int) := ⟨((j : Int) - 1 - t).toNat, by omega⟩
        obtain ⟨y, hy⟩ : ∃ y, ws[m]? = some y := ⟨_, List.getElem?_eq_getElem (by omega)⟩
        exact ⟨y, by rw [em]; exact atI_nat (by rw [List.getElem?_map, hy]; rfl), List.mem_of_getElem? hy, ne m y hy (by omega)⟩
      · obtain ⟨m, em⟩ : ∃ m : Nat, (j : Int) - 1 - t + ws.length = (m : Int) := ⟨((j : Int) - 1 - t + ws.length).toNat, by omega⟩
        obtain ⟨y, hy⟩ : ∃ y, ws[m]? = some y := ⟨_, List.getElem?_eq_getElem (by omega)⟩
        refine ⟨y, atI_neg (by omega) (by rw [List.length_map]; omega) ?_, List.mem_of_getElem? hy, ne m y hy (by omega)⟩
        rw [List.length_map, em, Int.toNat_natCast, List.getElem?_map, hy]
        rfl
    refine ⟨_, hy, ?_⟩
    walk_at "w"
    refine ⟨_, _, rfl, by decide, fun u S8 _ hu => ?_⟩
    have hu := hu (by decide)
    walk_at "w"
    refine ⟨szl (by show 4 ≤ _; omega), ?_⟩
    walk_at "w"
    refine ⟨slt (by rw [List.length_map]; omega), ?_⟩
    refine hN _ ⟨rs ++ [⟨n, x, y, u⟩], S8, some (.fro (.str n)), some (.fro (.int j)), ?_, by rw [List.length_append, rl]; rfl, by rw [List.map_append, rn, e]; rfl, fun r hr => ?_⟩
    · rw [List.map_append]
      rfl
    · rcases List.mem_append.mp hr with q | q
      · exact rv r q
      · rw [List.mem_singleton.mp q]
        exact ⟨vn n (List.mem_of_getElem? hn), List.mem_of_getElem? hx, hxy.1, hxy.2, hu⟩

/-! ### the made Deep is the one that was told -/
theorem dn_strs {n : Nat} {ws : List Str} (h : ws.length ≤ 1000) : Dn (n + 1) (.lst (ws.map D.str)) := by
  refine ⟨by rw [List.length_map]; omega, fun x hx => ?_⟩
  obtain ⟨w, _, rfl⟩ := List.mem_map.mp hx
  cases n <;> exact trivial
theorem dn_prs {n : Nat} {ps : List Pr} (h : ps.length ≤ 1000) : Dn (n + 2) (.lst (ps.map Pr.d)) := by
  refine ⟨by rw [List.length_map]; omega, fun x hx => ?_⟩
  obtain ⟨w, _, rfl⟩ := List.mem_map.mp hx
  refine ⟨by show 4 < _; omega, fun x hx => ?_⟩
  simp only [List.mem_cons, List.not_mem_nil, or_false] at hx
  rcases hx with rfl | rfl | rfl | rfl <;> (cases n <;> exact trivial)
theorem dn_dvs {n : Nat} {ps : List Dv} (h : ps.length ≤ 1000) : Dn (n + 2) (.lst (ps.map Dv.d)) := by
  refine ⟨by rw [List.length_map]; omega, fun x hx => ?_⟩
  obtain ⟨w, _, rfl⟩ := List.mem_map.mp hx
  refine ⟨by show 2 < _; omega, fun x hx => ?_⟩
  simp only [List.mem_cons, List.not_mem_nil, or_false] at hx
  rcases hx with rfl | rfl <;> (cases n <;> exact trivial)
def m_law_is_deep : MP := fun ds k => ∃ (p : Dp), ds = [p.norm.d, p.told] ∧ p.good ∧ k (.fro (.bl true))
theorem len_law_is_deep : ∀ ds κ, m_law_is_deep ds κ → ds.length = 2 := by rintro _ _ ⟨_, rfl, _⟩; rfl
theorem mono_law_is_deep : ∀ ds k k', (∀ b, k b → k' b) → m_law_is_deep ds k → m_law_is_deep ds k' := fun _ _ _ f ⟨c, e, h0, h⟩ => ⟨c, e, h0, f _ h⟩
def N_law_is_deep : List Str := ["_law_deep", "_law_parts", "_law_homes", "_law_who"]
def T_law_is_deep_0_3 : DS :=
    (dRet (dAndV (dFz (dCall m_law_same [] (dCons (dFz (dMethN "Deep" fl_Deep m_Deep_delvers (dVarQ 0) dNil)) (dCons (dFz (dCall m_law_known [] (dCons (dVar 1) (dCons (dC (.int 2)) dNil)))) dNil)))) (dCall m_law_same [] (dCons (dVar 2) (dCons (dFz (dCl sortAD (dCons (dFz (dCl lstCD (dCons (dFz (dOp ixD (dVarQ 1) (dC (.int 2)))) dNil))) dNil))) dNil)))))
def T_law_is_deep_0_2 : DS :=
    dSeq (dFrzS [0] (dSet 2 (dLc (dISq (dFz (dCall m_law_known [] (dCons (dVar 1) (dCons (dC (.int 2)) dNil))))) (dGN 3) dYes (dTup (dCons (dVar 3) (dCons (dFz (dMethN "Deep" fl_Deep m_Deep_home (dVarQ 0) (dCons (dVarQ 3) dNil))) dNil))) [3])))
    T_law_is_deep_0_3
def T_law_is_deep_1_0 : DS :=
    (dRet (dUp (dC (.bl false))))
def T_law_is_deep_0_1 : DS :=
    dSeq (dIf (dOr (dNot (dTest (dCall m_law_same [] (dCons (dFz (dMethN "Deep" fl_Deep m_Deep_chambers (dVarQ 0) dNil)) (dCons (dFz (dCall m_law_known [] (dCons (dVar 1) (dCons (dC (.int 0)) dNil)))) dNil))))) (dNot (dTest (dCall m_law_same [] (dCons (dFz (dMethN "Deep" fl_Deep m_Deep_entries (dVarQ 0) dNil)) (dCons (dFz (dCall m_law_entries [] (dCons (dVar 1) dNil))) dNil))))))
    T_law_is_deep_1_0
    dNext)
    T_law_is_deep_0_2
def T_law_is_deep_2_0 : DS :=
    (dRet (dUp (dC (.bl false))))
def T_law_is_deep_0_0 : DS :=
    dSeq (dIf (dOr (dNot (dTest (dIsO cyL "Deep" (dVarQ 0)))) (dNot (dTest (dCall m_law_same [] (dCons (dFz (dProp "Deep" m_Deep_rope (dVarQ 0))) (dCons (dFz (dOp ixD (dVarQ 1) (dC (.int 3)))) dNil))))))
    T_law_is_deep_2_0
    dNext)
    T_law_is_deep_0_1
abbrev T_law_is_deep : DS := T_law_is_deep_0_0
theorem rd_law_is_deep : ∀ ds κ, m_law_is_deep ds κ → T_law_is_deep ⟨fun _ => κ (.fro .non), rtP κ, fun _ => False, fun _ => False, fun _ _ => False⟩ ⟨startD N_law_is_deep ds, none⟩ := by
  rintro ds κ ⟨p, rfl, ok, h⟩
  have nk := ok.norm
  walk_at "w"
  refine .inl ⟨⟨_, rfl⟩, ?_⟩
  walk_at "w"
  walk_at "g"
  refine ⟨⟨_, rfl⟩, p.norm, rfl, ?_⟩
  walk_at "w"
  refine ⟨_, rfl, ?_⟩
  walk_at "w"
  refine same_yes (a := .int p.rope) (d := .int p.rope) rfl trivial ?_
  walk_at "w"
  walk_at "g"
  refine ⟨dp_is _, p.norm, rfl, nk, ?_⟩
  walk_at "w"
  refine ⟨p, 0, rfl, ok.took, .inl rfl, ?_⟩
  walk_at "w"
  refine same_yes (a := .lst (p.norm.cs.map D.str)) (d := .lst ((p.kn 0).map D.str)) rfl (dn_strs (by have := nk.lc; omega)) ?_
  walk_at "w"
  walk_at "g"
  refine ⟨dp_is _, p.norm, rfl, nk, ?_⟩
  walk_at "w"
  refine ⟨p, rfl, ok.took, ?_⟩
  walk_at "w"
  refine same_yes (a := .lst (p.norm.ps.map Pr.d)) (d := .lst (p.norm.ps.map Pr.d)) rfl (dn_prs (by have := nk.lp; omega)) ?_
  walk_at "w"
  walk_at "g"
  refine ⟨p, 2, rfl, ok.took, .inr (.inr rfl), ?_⟩
  have ek : p.kn 2 = p.norm.ds.map Dv.n := (srtR_key Dv.n p.ds).symm
  rw [ek, List.map_map]
  walk_at "w"
  refine lcM (val := Dv.d) (by have := nk.ld; omega) ?_ fun r N hr hN => ?_
  · walk_at "w"
    refine ⟨dp_is _, p.norm, rfl, nk, ?_⟩
    walk_at "w"
    refine ⟨p, 2, rfl, ok.took, .inr (.inr rfl), ?_⟩
    rw [ek]
    walk_at "w"
    refine same_yes (a := .lst ((p.norm.ds.map Dv.n).map D.str)) (d := .lst ((p.norm.ds.map Dv.n).map D.str)) rfl (dn_strs (by rw [List.length_map]; have := nk.ld; omega)) ?_
    walk_at "w"
    walk_at "g"
    refine ⟨_, rfl, ?_⟩
    walk_at "w"
    refine ⟨ok_dv ok.sd, ?_⟩
    rw [srt_dv ok.nd]
    walk_at "w"
    exact same_yes (a := .lst (p.norm.ds.map Dv.d)) (d := .lst (p.norm.ds.map Dv.d)) rfl (dn_dvs (by have := nk.ld; omega)) h
  · walk_at "w"
    refine ⟨dp_is _, p.norm, r.n, rfl, nk, isNm_tb (nk.vd r hr).1, fun d hd e => ?_, fun z => absurd (List.mem_map_of_mem hr) z⟩
    have e := nd_inj nk.nd d hd r hr e
    subst e
    walk_at "w"
    exact ⟨szl (by show 2 ≤ _; omega), hN⟩

/-! ### the text of a Deep -/
def ln1 (i : Int) : Str := "deep " ++ toString i
def ln2 (c : Str) : Str := "chamber " ++ c
def ln3 (r : Pr) : Str := "passage " ++ r.n ++ " " ++ r.lo ++ " " ++ r.hi ++ " " ++ toString r.w
def ln4 (d : Dv) : Str := "delver " ++ d.n ++ " " ++ d.h
def Dp.lns (p : Dp) : List Str := ln1 p.rope :: (p.cs.map ln2 ++ (p.ps.map ln3 ++ p.ds.map ln4))
def Dp.txt (p : Dp) : Str := Txt.join "\n" p.lns
theorem sapp_len (a b : Str) : (a ++ b).length = a.length + b.length := by rw [str_len, str_app, List.length_append, ← str_len, ← str_len]
theorem semp (x : Str) : Str.empty ++ x = x := by
  apply PySem.W.str_of_cps
  rw [str_app]
  rfl
theorem l_deep : ("deep " : Str).length = 5 := by decide +kernel
theorem l_chamber : ("chamber " : Str).length = 8 := by decide +kernel
theorem l_passage : ("passage " : Str).length = 8 := by decide +kernel
theorem l_delver : ("delver " : Str).length = 7 := by decide +kernel
theorem l_blank : (" " : Str).length = 1 := by decide +kernel
theorem l_emp : Str.empty.length = 0 := rfl
theorem l_num {i : Int} (h : 0 ≤ i) (h2 : i ≤ 100000) : (toString i : Str).length ≤ 20 := by
  obtain ⟨n, rfl⟩ : ∃ n : Nat, i = (n : Int) := ⟨i.toNat, by omega⟩
  exact numS_len (by omega)
theorem log_i {i : Int} (h : 0 ≤ i) (h2 : i ≤ 100000) : i.natAbs.log2 < 1920 := by
  have e : i = (i.natAbs : Nat) := by omega
  rw [e]
  exact log_nat (by omega)
theorem ln2_len {c : Str} (h : IsNm c) : (ln2 c).length ≤ 100 := by
  have := h.len
  unfold ln2
  simp only [sapp_len, l_chamber]
  omega
theorem ln3_len {p : Dp} (ok : p.ok) {r : Pr} (hr : r ∈ p.ps) : (ln3 r).length ≤ 100 := by
  obtain ⟨h1, h2, h3, h4⟩ := ok.vp r hr
  have := h1.len
  have := (ok.vc _ h2).len
  have := (ok.vc _ h3).len
  have := l_num (i := r.w) (by omega) (by omega)
  unfold ln3
  simp only [sapp_len, l_passage, l_blank]
  omega
theorem ln4_len {p : Dp} (ok : p.ok) {r : Dv} (hr : r ∈ p.ds) : (ln4 r).length ≤ 100 := by
  obtain ⟨h1, h2⟩ := ok.vd r hr
  have := h1.len
  have := (ok.vc _ h2).len
  unfold ln4
  simp only [sapp_len, l_delver, l_blank]
  omega
theorem ln1_len {p : Dp} (ok : p.ok) : (ln1 p.rope).length ≤ 100 := by
  have := l_num (i := p.rope) (by have := ok.ro; omega) (by have := ok.ro; omega)
  unfold ln1
  simp only [sapp_len, l_deep]
  omega
theorem lns_len {p : Dp} (ok : p.ok) : ∀ l ∈ p.lns, l.length ≤ 100 := fun l hl => by
  unfold Dp.lns at hl
  rcases List.mem_cons.mp hl with rfl | hl
  · exact ln1_len ok
  rcases List.mem_append.mp hl with hl | hl
  · obtain ⟨c, hc, rfl⟩ := List.mem_map.mp hl
    exact ln2_len (ok.vc c hc)
  rcases List.mem_append.mp hl with hl | hl
  · obtain ⟨c, hc, rfl⟩ := List.mem_map.mp hl
    exact ln3_len ok hc
  · obtain ⟨c, hc, rfl⟩ := List.mem_map.mp hl
    exact ln4_len ok hc
theorem lns_n {p : Dp} (ok : p.ok) : p.lns.length = 1 + p.cs.length + p.ps.length + p.ds.length ∧ p.lns.length ≤ 40 := by
  have h : p.lns.length = 1 + p.cs.length + p.ps.length + p.ds.length := by
    unfold Dp.lns
    simp only [List.length_cons, List.length_append, List.length_map]
    omega
  have := ok.lc
  have := ok.lp
  have := ok.ld
  exact ⟨h, by omega⟩
theorem sum_le {l : List Str} (h : ∀ s ∈ l, s.length ≤ 100) : (l.map (·.length)).sum ≤ l.length * 100 := by
  induction l with
  | nil => simp
  | cons a l ih =>
    rw [List.map_cons, List.sum_cons, List.length_cons]
    have h1 := h a List.mem_cons_self
    have h2 := ih fun s hs => h s (List.mem_cons_of_mem _ hs)
    omega
def m_deep_text : MP := fun ds k => ∃ p : Dp, ds = [p.d] ∧ p.ok ∧ k (.fro (.str p.txt))
theorem len_deep_text : ∀ ds κ, m_deep_text ds κ → ds.length = 1 := by rintro _ _ ⟨_, rfl, _⟩; rfl
theorem mono_deep_text : ∀ ds k k', (∀ b, k b → k' b) → m_deep_text ds k → m_deep_text ds k' := fun _ _ _ f ⟨c, e, h0, h⟩ => ⟨c, e, h0, f _ h⟩
def N_deep_text : List Str := ["deep", "lines", "chamber", "passage", "low", "high", "width", "delver"]
def T_deep_text_0_4 : DS :=
    (dRet (dM1 joinD (dC (.str "\n")) (dVarQ 1)))
def T_deep_text_1_0 : DS :=
    (dApp 1 (dFs (dJcons (dC (.str "delver ")) (dJcons (dFmt (dVar 7)) (dJcons (dC (.str " ")) (dJcons (dFmt (dFz (dMethN "Deep" fl_Deep m_Deep_home (dVarQ 0) (dCons (dVarQ 7) dNil)))) dJnil))))))
def T_deep_text_0_3 : DS :=
    dSeq (dFor (dISq (dFz (dMethN "Deep" fl_Deep m_Deep_delvers (dVarQ 0) dNil))) (dGN 7)
    T_deep_text_1_0)
    T_deep_text_0_4
def T_deep_text_2_0 : DS :=
    (dApp 1 (dFs (dJcons (dC (.str "passage ")) (dJcons (dFmt (dVar 3)) (dJcons (dC (.str " ")) (dJcons (dFmt (dVar 4)) (dJcons (dC (.str " ")) (dJcons (dFmt (dVar 5)) (dJcons (dC (.str " ")) (dJcons (dFmt (dVar 6)) dJnil))))))))))
def T_deep_text_0_2 : DS :=
    dSeq (dFor (dISq (dFz (dMethN "Deep" fl_Deep m_Deep_entries (dVarQ 0) dNil))) (dGT 4 (dGCons (dGN 3) (dGCons (dGN 4) (dGCons (dGN 5) (dGCons (dGN 6) dGNil)))))
    T_deep_text_2_0)
    T_deep_text_0_3
def T_deep_text_3_0 : DS :=
    (dApp 1 (dFs (dJcons (dC (.str "chamber ")) (dJcons (dFmt (dVar 2)) dJnil))))
def T_deep_text_0_1 : DS :=
    dSeq (dFor (dISq (dFz (dMethN "Deep" fl_Deep m_Deep_chambers (dVarQ 0) dNil))) (dGN 2)
    T_deep_text_3_0)
    T_deep_text_0_2
def T_deep_text_0_0 : DS :=
    dSeq (dSet 1 (dLst (dCons (dFs (dJcons (dC (.str "deep ")) (dJcons (dFmt (dFz (dProp "Deep" m_Deep_rope (dVarQ 0)))) dJnil))) dNil)))
    T_deep_text_0_1
abbrev T_deep_text : DS := T_deep_text_0_0
abbrev dtE (p : Dp) (L : List Str) (x2 x3 x4 x5 x6 x7 : Option B) : Ev := ⟨[some (.fro p.d), ol (L.map D.str), x2, x3, x4, x5, x6, x7], none⟩
theorem map_snoc {α : Type} (L : List Str) (f : α → Str) (xs : List α) (x : α) : (L ++ (xs ++ [x]).map f).map D.str = (L ++ xs.map f).map D.str ++ [.str (f x)] := by
  rw [List.map_append, List.map_append, List.map_append, List.map_append, ← List.append_assoc]
  rfl
section
variable {p : Dp} {De : En} {L : List Str} {x2 x3 x4 x5 x6 x7 : Option B}
theorem dt4 (ok : p.ok) (hl : L.length ≤ 50) (hs : ∀ s ∈ L, s.length ≤ 100) (h : De.rt (.fro (.str (Txt.join "\n" L))) none) : T_deep_text_0_4 De (dtE p L x2 x3 x4 x5 x6 x7) := by
  walk_at "w"
  refine ⟨⟨_, rfl⟩, ?_⟩
  walk_at "w"
  refine ⟨L, rfl, ?_, h⟩
  have := sum_le hs
  have e : ("\n" : Str).length = 1 := by decide +kernel
  rw [e]
  omega
theorem dt3 (ok : p.ok) (hl : L.length ≤ 40) (h : ∀ x7, T_deep_text_0_4 De (dtE p (L ++ p.ds.map ln4) x2 x3 x4 x5 x6 x7)) : T_deep_text_0_3 De (dtE p L x2 x3 x4 x5 x6 x7) := by
  walk_at "w"
  refine ⟨dp_is p, p, rfl, ok, ?_⟩
  walk_at "w"
  refine forL _ (fun i Γ => ∃ (x7 : Option B), Γ = dtE p (L ++ (p.ds.take i).map ln4) x2 x3 x4 x5 x6 x7) ?_ ?_ _ ⟨x7, by show dtE p L x2 x3 x4 x5 x6 x7 = _; rw [List.take_zero, List.map_nil, List.append_nil]⟩
  · rintro Γ ⟨x7, rfl⟩
    rw [List.length_map, List.length_map, List.take_length]
    exact h x7
  · rintro i d Γ N hd ⟨x7, rfl⟩ hN
    rw [List.map_map] at hd
    obtain ⟨c, hc, rfl⟩ := map_at hd
    have hi := (List.getElem?_eq_some_iff.mp hc).1
    have hm := List.mem_of_getElem? hc
    have l1 := ln4_len ok hm
    obtain ⟨h1, h2⟩ := ok.vd c hm
    have l2 := h1.len
    have l3 := (ok.vc _ h2).len
    have e : p.ds.take (i + 1) = p.ds.take i ++ [c] := by rw [List.take_add_one, hc]; rfl
    have ld := ok.ld
    walk_at "w"
    refine ⟨sle (by simp only [sapp_len, l_delver, l_emp]; omega), ?_⟩
    walk_at "w"
    refine ⟨sle (by omega), ?_⟩
    walk_at "w"
    refine ⟨sle (by simp only [sapp_len, l_delver, l_emp]; omega), ?_⟩
    walk_at "w"
    refine ⟨sle (by simp only [sapp_len, l_delver, l_emp, l_blank]; omega), ?_⟩
    walk_at "w"
    refine ⟨dp_is p, p, c.n, rfl, ok, isNm_tb h1, fun d hd ee => ?_, fun z => absurd (List.mem_map_of_mem hm) z⟩
    have e2 := nd_inj ok.nd d hd c hm ee
    subst e2
    walk_at "w"
    refine ⟨sle (by omega), ?_⟩
    walk_at "w"
    rw [semp]
    refine ⟨sle (by simp only [sapp_len, l_delver, l_emp, l_blank]; omega), ?_⟩
    walk_at "w"
    refine ⟨slt (by simp only [List.length_map, List.length_append, List.length_take]; omega), ?_⟩
    refine hN _ ⟨some (.fro (.str d.n)), ?_⟩
    rw [e]
    unfold dtE ol
    rw [map_snoc]
    rfl
theorem dt2 (ok : p.ok) (hl : L.length ≤ 40) (h : ∀ x3 x4 x5 x6, T_deep_text_0_3 De (dtE p (L ++ p.ps.map ln3) x2 x3 x4 x5 x6 x7)) : T_deep_text_0_2 De (dtE p L x2 x3 x4 x5 x6 x7) := by
  walk_at "w"
  refine ⟨dp_is p, p, rfl, ok, ?_⟩
  walk_at "w"
  refine forL _ (fun i Γ => ∃ (x3 x4 x5 x6 : Option B), Γ = dtE p (L ++ (p.ps.take i).map ln3) x2 x3 x4 x5 x6 x7) ?_ ?_ _ ⟨x3, x4, x5, x6, by show dtE p L x2 x3 x4 x5 x6 x7 = _; rw [List.take_zero, List.map_nil, List.append_nil]⟩
  · rintro Γ ⟨x3, x4, x5, x6, rfl⟩
    rw [List.length_map, List.take_length]
    exact h x3 x4 x5 x6
  · rintro i d Γ N hd ⟨x3, x4, x5, x6, rfl⟩ hN
    obtain ⟨c, hc, rfl⟩ := map_at hd
    have hi := (List.getElem?_eq_some_iff.mp hc).1
    have hm := List.mem_of_getElem? hc
    obtain ⟨h1, h2, h3, h4⟩ := ok.vp c hm
    have l1 := h1.len
    have l2 := (ok.vc _ h2).len
    have l3 := (ok.vc _ h3).len
    have l4 := l_num (i := c.w) (by omega) (by omega)
    have e : p.ps.take (i + 1) = p.ps.take i ++ [c] := by rw [List.take_add_one, hc]; rfl
    have lp := ok.lp
    walk_at "w"
    refine And.intro rfl ?_
    walk_at "w"
    refine ⟨sle (by simp only [sapp_len, l_passage, l_emp, l_blank]; omega), ?_⟩
    walk_at "w"
    refine ⟨sle (by omega), ?_⟩
    walk_at "w"
    refine ⟨sle (by simp only [sapp_len, l_passage, l_emp, l_blank]; omega), ?_⟩
    walk_at "w"
    refine ⟨sle (by simp only [sapp_len, l_passage, l_emp, l_blank]; omega), ?_⟩
    walk_at "w"
    refine ⟨sle (by omega), ?_⟩
    walk_at "w"
    refine ⟨sle (by simp only [sapp_len, l_passage, l_emp, l_blank]; omega), ?_⟩
    walk_at "w"
    refine ⟨sle (by simp only [sapp_len, l_passage, l_emp, l_blank]; omega), ?_⟩
    walk_at "w"
    refine ⟨sle (by omega), ?_⟩
    walk_at "w"
    refine ⟨sle (by simp only [sapp_len, l_passage, l_emp, l_blank]; omega), ?_⟩
    walk_at "w"
    refine ⟨sle (by simp only [sapp_len, l_passage, l_emp, l_blank]; omega), ?_⟩
    walk_at "w"
    refine ⟨log_i (by omega) (by omega), ?_⟩
    walk_at "w"
    rw [semp]
    refine ⟨sle (by simp only [sapp_len, l_passage, l_emp, l_blank]; omega), ?_⟩
    walk_at "w"
    refine ⟨slt (by simp only [List.length_map, List.length_append, List.length_take]; omega), ?_⟩
    refine hN _ ⟨some (.fro (.str c.n)), some (.fro (.str c.lo)), some (.fro (.str c.hi)), some (.fro (.int c.w)), ?_⟩
    rw [e]
    unfold dtE ol
    rw [map_snoc]
    rfl
theorem dt1 (ok : p.ok) (hl : L.length ≤ 40) (h : ∀ x2, T_deep_text_0_2 De (dtE p (L ++ p.cs.map ln2) x2 x3 x4 x5 x6 x7)) : T_deep_text_0_1 De (dtE p L x2 x3 x4 x5 x6 x7) := by
  walk_at "w"
  refine ⟨dp_is p, p, rfl, ok, ?_⟩
  walk_at "w"
  refine forL _ (fun i Γ => ∃ (x2 : Option B), Γ = dtE p (L ++ (p.cs.take i).map ln2) x2 x3 x4 x5 x6 x7) ?_ ?_ _ ⟨x2, by show dtE p L x2 x3 x4 x5 x6 x7 = _; rw [List.take_zero, List.map_nil, List.append_nil]⟩
  · rintro Γ ⟨x2, rfl⟩
    rw [List.length_map, List.take_length]
    exact h x2
  · rintro i d Γ N hd ⟨x2, rfl⟩ hN
    obtain ⟨c, hc, rfl⟩ := map_at hd
    have hi := (List.getElem?_eq_some_iff.mp hc).1
    have l2 := (ok.vc c (List.mem_of_getElem? hc)).len
    have e : p.cs.take (i + 1) = p.cs.take i ++ [c] := by rw [List.take_add_one, hc]; rfl
    have lc := ok.lc
    walk_at "w"
    refine ⟨sle (by simp only [sapp_len, l_chamber, l_emp]; omega), ?_⟩
    walk_at "w"
    refine ⟨sle (by omega), ?_⟩
    walk_at "w"
    rw [semp]
    refine ⟨sle (by simp only [sapp_len, l_chamber, l_emp]; omega), ?_⟩
    walk_at "w"
    refine ⟨slt (by simp only [List.length_map, List.length_append, List.length_take]; omega), ?_⟩
    refine hN _ ⟨some (.fro (.str c)), ?_⟩
    rw [e]
    unfold dtE ol
    rw [map_snoc]
    rfl
end
theorem rd_deep_text : ∀ ds κ, m_deep_text ds κ → T_deep_text ⟨fun _ => κ (.fro .non), rtP κ, fun _ => False, fun _ => False, fun _ _ => False⟩ ⟨startD N_deep_text ds, none⟩ := by
  rintro ds κ ⟨p, rfl, ok, h⟩
  have lr := ln1_len ok
  have lc := ok.lc
  have lp := ok.lp
  have ld := ok.ld
  walk_at "w"
  refine ⟨sle (by simp only [sapp_len, l_deep, l_emp]; omega), ?_⟩
  walk_at "w"
  refine ⟨⟨_, rfl⟩, p, rfl, ?_⟩
  walk_at "w"
  refine ⟨log_i (by have := ok.ro; omega) (by have := ok.ro; omega), ?_⟩
  walk_at "w"
  rw [semp]
  refine ⟨sle (by show (ln1 p.rope).length ≤ _; omega), ?_⟩
  walk_at "w"
  walk_at "g"
  show T_deep_text_0_1 _ (dtE p [ln1 p.rope] none none none none none none)
  have e : ([ln1 p.rope] ++ p.cs.map ln2 ++ p.ps.map ln3 ++ p.ds.map ln4) = p.lns := by
    unfold Dp.lns
    simp only [List.append_assoc]
    rfl
  refine dt1 ok (by simp) fun x2 => dt2 ok (by simp; omega) fun x3 x4 x5 x6 => dt3 ok (by simp; omega) fun x7 => ?_
  rw [e]
  exact dt4 ok (by have := (lns_n ok).2; omega) (lns_len ok) h

def m_law_deep_lines : MP := fun ds k => ∃ p : Dp, ds = [p.told] ∧ p.good ∧ k (.own (.lst (p.norm.lns.map D.str)))
theorem len_law_deep_lines : ∀ ds κ, m_law_deep_lines ds κ → ds.length = 1 := by rintro _ _ ⟨_, rfl, _⟩; rfl
theorem mono_law_deep_lines : ∀ ds k k', (∀ b, k b → k' b) → m_law_deep_lines ds k → m_law_deep_lines ds k' := fun _ _ _ f ⟨c, e, h0, h⟩ => ⟨c, e, h0, f _ h⟩
def N_law_deep_lines : List Str := ["_law_parts", "_law_out", "_law_name", "_law_row"]
def T_law_deep_lines_0_4 : DS :=
    (dRet (dMove 1))
def T_law_deep_lines_1_0 : DS :=
    (dApp 1 (dFz (dOp addD (dFz (dOp addD (dFz (dOp addD (dC (.str "delver ")) (dFz (dOp ixD (dVarQ 3) (dC (.int 0)))))) (dC (.str " ")))) (dFz (dOp ixD (dVarQ 3) (dC (.int 1)))))))
def T_law_deep_lines_0_3 : DS :=
    dSeq (dFor (dISq (dFz (dCl sortAD (dCons (dFz (dCl lstCD (dCons (dFz (dOp ixD (dVarQ 0) (dC (.int 2)))) dNil))) dNil)))) (dGN 3)
    T_law_deep_lines_1_0)
    T_law_deep_lines_0_4
def T_law_deep_lines_2_0 : DS :=
    (dApp 1 (dFz (dOp addD (dFz (dOp addD (dFz (dOp addD (dFz (dOp addD (dFz (dOp addD (dFz (dOp addD (dFz (dOp addD (dC (.str "passage ")) (dFz (dOp ixD (dVarQ 3) (dC (.int 0)))))) (dC (.str " ")))) (dFz (dOp ixD (dVarQ 3) (dC (.int 1)))))) (dC (.str " ")))) (dFz (dOp ixD (dVarQ 3) (dC (.int 2)))))) (dC (.str " ")))) (dFz (dCl strCD (dCons (dFz (dOp ixD (dVarQ 3) (dC (.int 3)))) dNil))))))
def T_law_deep_lines_0_2 : DS :=
    dSeq (dFor (dISq (dFz (dCall m_law_entries [] (dCons (dVar 0) dNil)))) (dGN 3)
    T_law_deep_lines_2_0)
    T_law_deep_lines_0_3
def T_law_deep_lines_3_0 : DS :=
    (dApp 1 (dFz (dOp addD (dC (.str "chamber ")) (dVarQ 2))))
def T_law_deep_lines_0_1 : DS :=
    dSeq (dFor (dISq (dFz (dCl sortAD (dCons (dFz (dCl lstCD (dCons (dFz (dOp ixD (dVarQ 0) (dC (.int 0)))) dNil))) dNil)))) (dGN 2)
    T_law_deep_lines_3_0)
    T_law_deep_lines_0_2
def T_law_deep_lines_0_0 : DS :=
    dSeq (dSet 1 (dLst (dCons (dFz (dOp addD (dC (.str "deep ")) (dFz (dCl strCD (dCons (dFz (dOp ixD (dVarQ 0) (dC (.int 3)))) dNil))))) dNil)))
    T_law_deep_lines_0_1
abbrev T_law_deep_lines : DS := T_law_deep_lines_0_0
abbrev dlE (p : Dp) (L : List Str) (x2 x3 : Option B) : Ev := ⟨[some (.fro p.told), ol (L.map D.str), x2, x3], none⟩
section
variable {p : Dp} {De : En} {L : List Str} {x2 x3 : Option B}
theorem dl3 (ok : p.good) (hl : L.length ≤ 40) (h : De.rt (.own (.lst ((L ++ p.norm.ds.map ln4).map D.str))) none) : T_law_deep_lines_0_3 De (dlE p L x2 x3) := by
  walk_at "w"
  refine ⟨_, rfl, ?_⟩
  walk_at "w"
  refine ⟨ok_dv ok.sd, ?_⟩
  rw [srt_dv ok.nd]
  have nk := ok.norm
  have ld := nk.ld
  walk_at "w"
  refine forL _ (fun i Γ => ∃ (x3 : Option B), Γ = dlE p (L ++ (p.norm.ds.take i).map ln4) x2 x3) ?_ ?_ _ ⟨x3, by show dlE p L x2 x3 = _; rw [List.take_zero, List.map_nil, List.append_nil]⟩
  · rintro Γ ⟨x3, rfl⟩
    rw [List.length_map, show (srtR Dv.n p.ds).length = p.norm.ds.length from rfl, List.take_length]
    exact h
  · rintro i d Γ N hd ⟨x3, rfl⟩ hN
    obtain ⟨c, hc, rfl⟩ := map_at hd
    have hc : p.norm.ds[i]? = some c := hc
    have hi := (List.getElem?_eq_some_iff.mp hc).1
    have hm := List.mem_of_getElem? hc
    obtain ⟨h1, h2⟩ := nk.vd c hm
    have e : p.norm.ds.take (i + 1) = p.norm.ds.take i ++ [c] := by rw [List.take_add_one, hc]; rfl
    walk_at "w"
    refine ⟨_, rfl, ?_⟩
    have l2 := h1.len
    have l3 := (nk.vc _ h2).len
    walk_at "w"
    refine ⟨sle (by simp only [sapp_len, l_delver, l_blank]; omega), ?_⟩
    walk_at "w"
    refine ⟨sle (by simp only [sapp_len, l_delver, l_blank]; omega), ?_⟩
    walk_at "w"
    refine ⟨_, rfl, ?_⟩
    walk_at "w"
    refine ⟨sle (by simp only [sapp_len, l_delver, l_blank]; omega), ?_⟩
    walk_at "w"
    refine ⟨slt (by simp only [List.length_map, List.length_append, List.length_take]; omega), ?_⟩
    refine hN _ ⟨some (.fro c.d), ?_⟩
    rw [e]
    unfold dlE ol
    rw [map_snoc]
    rfl
theorem dl2 (ok : p.good) (hl : L.length ≤ 40) (h : ∀ x3, T_law_deep_lines_0_3 De (dlE p (L ++ p.norm.ps.map ln3) x2 x3)) : T_law_deep_lines_0_2 De (dlE p L x2 x3) := by
  have nk := ok.norm
  have lp := nk.lp
  walk_at "w"
  refine ⟨p, rfl, ok.took, ?_⟩
  walk_at "w"
  refine forL _ (fun i Γ => ∃ (x3 : Option B), Γ = dlE p (L ++ (p.norm.ps.take i).map ln3) x2 x3) ?_ ?_ _ ⟨x3, by show dlE p L x2 x3 = _; rw [List.take_zero, List.map_nil, List.append_nil]⟩
  · rintro Γ ⟨x3, rfl⟩
    rw [List.length_map, List.take_length]
    exact h x3
  · rintro i d Γ N hd ⟨x3, rfl⟩ hN
    obtain ⟨c, hc, rfl⟩ := map_at hd
    have hi := (List.getElem?_eq_some_iff.mp hc).1
    have hm := List.mem_of_getElem? hc
    obtain ⟨h1, h2, h3, h4⟩ := nk.vp c hm
    have e : p.norm.ps.take (i + 1) = p.norm.ps.take i ++ [c] := by rw [List.take_add_one, hc]; rfl
    have l1 := h1.len
    have l2 := (nk.vc _ h2).len
    have l3 := (nk.vc _ h3).len
    have l4 := l_num (i := c.w) (by omega) (by omega)
    walk_at "w"
    refine ⟨_, rfl, ?_⟩
    walk_at "w"
    refine ⟨sle (by simp only [sapp_len, l_passage, l_blank]; omega), ?_⟩
    walk_at "w"
    refine ⟨sle (by simp only [sapp_len, l_passage, l_blank]; omega), ?_⟩
    walk_at "w"
    refine ⟨_, rfl, ?_⟩
    walk_at "w"
    refine ⟨sle (by simp only [sapp_len, l_passage, l_blank]; omega), ?_⟩
    walk_at "w"
    refine ⟨sle (by simp only [sapp_len, l_passage, l_blank]; omega), ?_⟩
    walk_at "w"
    refine ⟨_, rfl, ?_⟩
    walk_at "w"
    refine ⟨sle (by simp only [sapp_len, l_passage, l_blank]; omega), ?_⟩
    walk_at "w"
    refine ⟨sle (by simp only [sapp_len, l_passage, l_blank]; omega), ?_⟩
    walk_at "w"
    refine ⟨_, rfl, ?_⟩
    walk_at "w"
    refine ⟨log_i (by omega) (by omega), ?_⟩
    walk_at "w"
    refine ⟨sle (by simp only [sapp_len, l_passage, l_blank]; omega), ?_⟩
    walk_at "w"
    refine ⟨slt (by simp only [List.length_map, List.length_append, List.length_take]; omega), ?_⟩
    refine hN _ ⟨some (.fro c.d), ?_⟩
    rw [e]
    unfold dlE ol
    rw [map_snoc]
    rfl
theorem dl1 (ok : p.good) (hl : L.length ≤ 40) (h : ∀ x2, T_law_deep_lines_0_2 De (dlE p (L ++ p.norm.cs.map ln2) x2 x3)) : T_law_deep_lines_0_1 De (dlE p L x2 x3) := by
  have nk := ok.norm
  have lc := nk.lc
  walk_at "w"
  refine ⟨_, rfl, ?_⟩
  walk_at "w"
  refine ⟨ok_strs ok.sc, ?_⟩
  rw [srt_strs]
  walk_at "w"
  refine forL _ (fun i Γ => ∃ (x2 : Option B), Γ = dlE p (L ++ (p.norm.cs.take i).map ln2) x2 x3) ?_ ?_ _ ⟨x2, by show dlE p L x2 x3 = _; rw [List.take_zero, List.map_nil, List.append_nil]⟩
  · rintro Γ ⟨x2, rfl⟩
    rw [List.length_map, show (srtS p.cs).length = p.norm.cs.length from rfl, List.take_length]
    exact h x2
  · rintro i d Γ N hd ⟨x2, rfl⟩ hN
    obtain ⟨c, hc, rfl⟩ := map_at hd
    have hc : p.norm.cs[i]? = some c := hc
    have hi := (List.getElem?_eq_some_iff.mp hc).1
    have l2 := (nk.vc c (List.mem_of_getElem? hc)).len
    have e : p.norm.cs.take (i + 1) = p.norm.cs.take i ++ [c] := by rw [List.take_add_one, hc]; rfl
    walk_at "w"
    refine ⟨sle (by simp only [sapp_len, l_chamber, l_blank]; omega), ?_⟩
    walk_at "w"
    refine ⟨slt (by simp only [List.length_map, List.length_append, List.length_take]; omega), ?_⟩
    refine hN _ ⟨some (.fro (.str c)), ?_⟩
    rw [e]
    unfold dlE ol
    rw [map_snoc]
    rfl
end
theorem rd_law_deep_lines : ∀ ds κ, m_law_deep_lines ds κ → T_law_deep_lines ⟨fun _ => κ (.fro .non), rtP κ, fun _ => False, fun _ => False, fun _ _ => False⟩ ⟨startD N_law_deep_lines ds, none⟩ := by
  rintro ds κ ⟨p, rfl, ok, h⟩
  have nk := ok.norm
  have lc := nk.lc
  have lp := nk.lp
  have ld := nk.ld
  have lr := l_num (i := p.rope) (by have := ok.ro; omega) (by have := ok.ro; omega)
  walk_at "w"
  refine ⟨_, rfl, ?_⟩
  walk_at "w"
  refine ⟨log_i (by have := ok.ro; omega) (by have := ok.ro; omega), ?_⟩
  walk_at "w"
  refine ⟨sle (by simp only [sapp_len, l_deep]; omega), ?_⟩
  walk_at "w"
  walk_at "g"
  show T_law_deep_lines_0_1 _ (dlE p [ln1 p.rope] none none)
  have e : ([ln1 p.rope] ++ p.norm.cs.map ln2 ++ p.norm.ps.map ln3 ++ p.norm.ds.map ln4) = p.norm.lns := by
    unfold Dp.lns
    simp only [List.append_assoc]
    rfl
  refine dl1 ok (by simp) fun x2 => dl2 ok (by simp; omega) fun x3 => dl3 ok (by simp; omega) ?_
  rw [e]
  exact h

/-! ### the lines' words -/
def wd1 (i : Int) : List Str := ["deep", toString i]
def wd2 (c : Str) : List Str := ["chamber", c]
def wd3 (r : Pr) : List Str := ["passage", r.n, r.lo, r.hi, toString r.w]
def wd4 (d : Dv) : List Str := ["delver", d.n, d.h]
theorem sassoc (a b c : Str) : a ++ b ++ c = a ++ (b ++ c) := by
  apply str_ext
  simp only [str_app, List.append_assoc]
theorem e_deep : ("deep " : Str) = "deep" ++ " " := by decide +kernel
theorem e_chamber : ("chamber " : Str) = "chamber" ++ " " := by decide +kernel
theorem e_passage : ("passage " : Str) = "passage" ++ " " := by decide +kernel
theorem e_delver : ("delver " : Str) = "delver" ++ " " := by decide +kernel
theorem ln1_j (i : Int) : ln1 i = Txt.join " " (wd1 i) := by
  rw [TL.join_eq]
  unfold ln1 wd1
  rw [e_deep]
  rfl
theorem ln2_j (c : Str) : ln2 c = Txt.join " " (wd2 c) := by
  rw [TL.join_eq]
  unfold ln2 wd2
  rw [e_chamber]
  rfl
theorem ln3_j (r : Pr) : ln3 r = Txt.join " " (wd3 r) := by
  rw [TL.join_eq]
  unfold ln3 wd3
  rw [e_passage]
  show _ = "passage" ++ " " ++ (r.n ++ " " ++ (r.lo ++ " " ++ (r.hi ++ " " ++ toString r.w)))
  simp only [sassoc]
theorem ln4_j (d : Dv) : ln4 d = Txt.join " " (wd4 d) := by
  rw [TL.join_eq]
  unfold ln4 wd4
  rw [e_delver]
  show _ = "delver" ++ " " ++ (d.n ++ " " ++ d.h)
  simp only [sassoc]
/-- no sign of it is the blank or the line's end -/
def Fr2 (s : Str) : Prop := 32 ∉ s.cps.toList ∧ 10 ∉ s.cps.toList
theorem isNm_fr {s : Str} (h : IsNm s) : Fr2 s := by
  have hs : ∀ c ∈ s.cps.toList, isSg c = true := by
    obtain ⟨c, l, e, h1, h2, h3⟩ := h
    rw [e]
    intro x hx
    rcases List.mem_cons.mp hx with rfl | hx
    · rw [isSg, h1]; rfl
    · exact h3 x hx
  exact ⟨fun z => absurd (hs _ z) (by decide), fun z => absurd (hs _ z) (by decide)⟩
theorem num_fr {i : Int} (h : 1 ≤ i) (h2 : i ≤ 12) : Fr2 (toString i : Str) := by
  have : i = 1 ∨ i = 2 ∨ i = 3 ∨ i = 4 ∨ i = 5 ∨ i = 6 ∨ i = 7 ∨ i = 8 ∨ i = 9 ∨ i = 10 ∨ i = 11 ∨ i = 12 := by omega
  unfold Fr2
  rcases this with rfl | rfl | rfl | rfl | rfl | rfl | rfl | rfl | rfl | rfl | rfl | rfl <;> decide +kernel
theorem lit_fr {s : Str} (h : s.cps.toList.all (fun c => decide (c ≠ 32 ∧ c ≠ 10)) = true) : Fr2 s := by
  rw [List.all_eq_true] at h
  exact ⟨fun z => (of_decide_eq_true (h _ z)).1 rfl, fun z => (of_decide_eq_true (h _ z)).2 rfl⟩
theorem spl_sp {ws : List Str} (hne : ws ≠ []) (h : ∀ w ∈ ws, Fr2 w) : Txt.split (Txt.join " " ws) " " = ws :=
  TL.split_join (y := " ") (s := 32) (S := []) (by decide +kernel) (by decide +kernel) hne fun w hw => (h w hw).1
theorem spl_2 {c : Str} (h : IsNm c) : Txt.split (ln2 c) " " = wd2 c := by
  rw [ln2_j]
  refine spl_sp (by simp [wd2]) fun w hw => ?_
  simp only [wd2, List.mem_cons, List.not_mem_nil, or_false] at hw
  rcases hw with rfl | rfl
  · exact lit_fr (by decide +kernel)
  · exact isNm_fr h
theorem spl_3 {p : Dp} (ok : p.ok) {r : Pr} (hr : r ∈ p.ps) : Txt.split (ln3 r) " " = wd3 r := by
  obtain ⟨h1, h2, h3, h4⟩ := ok.vp r hr
  rw [ln3_j]
  refine spl_sp (by simp [wd3]) fun w hw => ?_
  simp only [wd3, List.mem_cons, List.not_mem_nil, or_false] at hw
  rcases hw with rfl | rfl | rfl | rfl | rfl
  · exact lit_fr (by decide +kernel)
  · exact isNm_fr h1
  · exact isNm_fr (ok.vc _ h2)
  · exact isNm_fr (ok.vc _ h3)
  · exact num_fr (by omega) (by omega)
theorem spl_4 {p : Dp} (ok : p.ok) {r : Dv} (hr : r ∈ p.ds) : Txt.split (ln4 r) " " = wd4 r := by
  obtain ⟨h1, h2⟩ := ok.vd r hr
  rw [ln4_j]
  refine spl_sp (by simp [wd4]) fun w hw => ?_
  simp only [wd4, List.mem_cons, List.not_mem_nil, or_false] at hw
  rcases hw with rfl | rfl | rfl
  · exact lit_fr (by decide +kernel)
  · exact isNm_fr h1
  · exact isNm_fr (ok.vc _ h2)
theorem spl_1 {p : Dp} (ok : p.ok) : Txt.split (ln1 p.rope) " " = wd1 p.rope := by
  rw [ln1_j]
  refine spl_sp (by simp [wd1]) fun w hw => ?_
  simp only [wd1, List.mem_cons, List.not_mem_nil, or_false] at hw
  rcases hw with rfl | rfl
  · exact lit_fr (by decide +kernel)
  · exact num_fr ok.ro.1 ok.ro.2
theorem fr_app {a b : Str} (h : 10 ∉ a.cps.toList) (g : 10 ∉ b.cps.toList) : 10 ∉ (a ++ b).cps.toList := by
  rw [str_app, List.mem_append]
  exact fun z => z.elim h g
theorem lns_fr {p : Dp} (ok : p.ok) : ∀ l ∈ p.lns, 10 ∉ l.cps.toList := fun l hl => by
  have lit : ∀ {s : Str}, s.cps.toList.all (fun c => decide (c ≠ 10)) = true → 10 ∉ s.cps.toList := fun {s} h z => by
    rw [List.all_eq_true] at h
    exact of_decide_eq_true (h _ z) rfl
  unfold Dp.lns at hl
  rcases List.mem_cons.mp hl with rfl | hl
  · exact fr_app (lit (by decide +kernel)) (num_fr ok.ro.1 ok.ro.2).2
  rcases List.mem_append.mp hl with hl | hl
  · obtain ⟨c, hc, rfl⟩ := List.mem_map.mp hl
    exact fr_app (lit (by decide +kernel)) (isNm_fr (ok.vc c hc)).2
  rcases List.mem_append.mp hl with hl | hl
  · obtain ⟨c, hc, rfl⟩ := List.mem_map.mp hl
    obtain ⟨h1, h2, h3, h4⟩ := ok.vp c hc
    have b : 10 ∉ ((" " : Str)).cps.toList := lit (by decide +kernel)
    exact fr_app (fr_app (fr_app (fr_app (fr_app (fr_app (fr_app (lit (by decide +kernel)) (isNm_fr h1).2) b) (isNm_fr (ok.vc _ h2)).2) b) (isNm_fr (ok.vc _ h3)).2) b) (num_fr (by omega) (by omega)).2
  · obtain ⟨c, hc, rfl⟩ := List.mem_map.mp hl
    obtain ⟨h1, h2⟩ := ok.vd c hc
    have b : 10 ∉ ((" " : Str)).cps.toList := lit (by decide +kernel)
    exact fr_app (fr_app (fr_app (lit (by decide +kernel)) (isNm_fr h1).2) b) (isNm_fr (ok.vc _ h2)).2
theorem lns_split {p : Dp} (ok : p.ok) : Txt.split p.txt "\n" = p.lns :=
  TL.split_join (y := "\n") (s := 10) (S := []) (by decide +kernel) (by decide +kernel) (by unfold Dp.lns; simp) (lns_fr ok)
/-! different Deeps have different texts -/
def gt1 : List Str → Option Str
  | [a, b] => if a = "deep" then some b else none
  | _ => none
def gt2 : List Str → Option Str
  | [a, b] => if a = "chamber" then some b else none
  | _ => none
def gt3 : List Str → Option (Str × Str × Str × Str)
  | [_, b, c, d, e] => some (b, c, d, e)
  | _ => none
def gt4 : List Str → Option Dv
  | [_, b, c] => some ⟨b, c⟩
  | _ => none
theorem num_inj {i j : Int} (h : 1 ≤ i ∧ i ≤ 12) (h2 : 1 ≤ j ∧ j ≤ 12) (e : (toString i : Str) = toString j) : i = j := by
  have t : ∀ k : Int, 1 ≤ k ∧ k ≤ 12 → Txt.find ("_1_2_3_4_5_6_7_8_9_10_11_12_" : Str) ("_" ++ (toString k : Str) ++ "_") = if k < 10 then 2 * (k - 1) else 18 + 3 * (k - 10) := fun k hk => by
    have : k = 1 ∨ k = 2 ∨ k = 3 ∨ k = 4 ∨ k = 5 ∨ k = 6 ∨ k = 7 ∨ k = 8 ∨ k = 9 ∨ k = 10 ∨ k = 11 ∨ k = 12 := by omega
    rcases this with rfl | rfl | rfl | rfl | rfl | rfl | rfl | rfl | rfl | rfl | rfl | rfl <;> decide +kernel
  have h3 := t i h
  rw [e, t j h2] at h3
  split at h3 <;> split at h3 <;> omega
theorem fm_map {α β : Type} {f : α → List Str} {g : List Str → Option β} {k : α → β} (h : ∀ a, g (f a) = some (k a)) : ∀ l : List α, (l.map f).filterMap g = l.map k
  | [] => rfl
  | a :: l => by rw [List.map_cons, List.filterMap_cons, h, List.map_cons, fm_map h l]
theorem fm_none {α β : Type} {f : α → List Str} {g : List Str → Option β} (h : ∀ a, g (f a) = none) : ∀ l : List α, (l.map f).filterMap g = []
  | [] => rfl
  | a :: l => by rw [List.map_cons, List.filterMap_cons, h, fm_none h l]
def Dp.wds (p : Dp) : List (List Str) := wd1 p.rope :: (p.cs.map wd2 ++ (p.ps.map wd3 ++ p.ds.map wd4))
theorem lns_wds {p : Dp} (ok : p.ok) : p.lns.map (fun l => Txt.split l " ") = p.wds := by
  unfold Dp.lns Dp.wds
  rw [List.map_cons, List.map_append, List.map_append, spl_1 ok]
  simp only [List.map_map]
  have c2 : p.cs.map ((fun l => Txt.split l " ") ∘ ln2) = p.cs.map wd2 := List.map_congr_left fun c hc => spl_2 (ok.vc c hc)
  have c3 : p.ps.map ((fun l => Txt.split l " ") ∘ ln3) = p.ps.map wd3 := List.map_congr_left fun c hc => spl_3 ok hc
  have c4 : p.ds.map ((fun l => Txt.split l " ") ∘ ln4) = p.ds.map wd4 := List.map_congr_left fun c hc => spl_4 ok hc
  rw [c2, c3, c4]
theorem txt_inj {p q : Dp} (okp : p.ok) (okq : q.ok) (e : p.txt = q.txt) : p = q := by
  have e1 : p.lns = q.lns := by rw [← lns_split okp, e, lns_split okq]
  have e2 : p.wds = q.wds := by rw [← lns_wds okp, e1, lns_wds okq]
  have k1 : ∀ p : Dp, p.wds.filterMap gt1 = [(toString p.rope : Str)] := fun p => by
    unfold Dp.wds
    rw [List.filterMap_cons, List.filterMap_append, List.filterMap_append, fm_none (f := wd2) fun c => show (if ("chamber" : Str) = "deep" then some c else none) = none from if_neg (by decide +kernel), fm_none (f := wd3) fun _ => rfl, fm_none (f := wd4) fun _ => rfl]
    have e : gt1 (wd1 p.rope) = some (toString p.rope : Str) := show (if ("deep" : Str) = "deep" then some (toString p.rope : Str) else none) = _ from if_pos rfl
    rw [e]
    rfl
  have k2 : ∀ p : Dp, p.wds.filterMap gt2 = p.cs := fun p => by
    unfold Dp.wds
    rw [List.filterMap_cons, List.filterMap_append, List.filterMap_append, fm_map (f := wd2) (k := fun c => c) fun c => show (if ("chamber" : Str) = "chamber" then some c else none) = some c from if_pos rfl, fm_none (f := wd3) fun _ => rfl, fm_none (f := wd4) fun _ => rfl, List.append_nil, List.append_nil, List.map_id']
    have e : gt2 (wd1 p.rope) = none := show (if ("deep" : Str) = "chamber" then some (toString p.rope : Str) else none) = none from if_neg (by decide +kernel)
    rw [e]
  have k3 : ∀ p : Dp, p.wds.filterMap gt3 = p.ps.map fun r => (r.n, r.lo, r.hi, (toString r.w : Str)) := fun p => by
    unfold Dp.wds
    rw [List.filterMap_cons, List.filterMap_append, List.filterMap_append, fm_none (f := wd2) fun c => rfl, fm_map (f := wd3) (k := fun r => (r.n, r.lo, r.hi, (toString r.w : Str))) fun _ => rfl, fm_none (f := wd4) fun _ => rfl, List.append_nil]
    rfl
  have k4 : ∀ p : Dp, p.wds.filterMap gt4 = p.ds := fun p => by
    unfold Dp.wds
    rw [List.filterMap_cons, List.filterMap_append, List.filterMap_append, fm_none (f := wd2) fun c => rfl, fm_none (f := wd3) fun _ => rfl, fm_map (f := wd4) (k := fun d => d) fun _ => rfl, List.map_id']
    rfl
  have a1 : p.rope = q.rope := by
    have := k1 p
    rw [e2, k1 q] at this
    exact num_inj okp.ro okq.ro (List.cons.inj this.symm).1
  have a2 : p.cs = q.cs := by rw [← k2 p, e2, k2 q]
  have a4 : p.ds = q.ds := by rw [← k4 p, e2, k4 q]
  have a3 : p.ps = q.ps := by
    have h := k3 p
    rw [e2, k3 q] at h
    have main : ∀ xs ys : List Pr, (∀ r ∈ xs, 1 ≤ r.w ∧ r.w ≤ 6) → (∀ r ∈ ys, 1 ≤ r.w ∧ r.w ≤ 6) → (xs.map fun r => (r.n, r.lo, r.hi, (toString r.w : Str))) = (ys.map fun r => (r.n, r.lo, r.hi, (toString r.w : Str))) → xs = ys := fun xs => by
      induction xs with
      | nil =>
        intro ys _ _ e
        cases ys with
        | nil => rfl
        | cons _ _ => cases e
      | cons x xs ih =>
        intro ys hx hy e
        cases ys with
        | nil => cases e
        | cons y ys =>
          rw [List.map_cons, List.map_cons] at e
          obtain ⟨e3, e4⟩ := List.cons.inj e
          have b1 := hx x List.mem_cons_self
          have b2 := hy y List.mem_cons_self
          obtain ⟨xn, xl, xh, xw⟩ := x
          obtain ⟨yn, yl, yh, yw⟩ := y
          simp only [Prod.mk.injEq] at e3
          have b1 : 1 ≤ xw ∧ xw ≤ 6 := b1
          have b2 : 1 ≤ yw ∧ yw ≤ 6 := b2
          obtain ⟨rfl, rfl, rfl, e5⟩ := e3
          have := num_inj (i := xw) (j := yw) ⟨b1.1, by omega⟩ ⟨b2.1, by omega⟩ e5
          subst this
          rw [ih ys (fun r hr => hx r (List.mem_cons_of_mem _ hr)) (fun r hr => hy r (List.mem_cons_of_mem _ hr)) e4]
    exact main _ _ (fun r hr => (okp.vp r hr).2.2.2) (fun r hr => (okq.vp r hr).2.2.2) h.symm
  cases p
  cases q
  simp only at a1 a2 a3 a4
  rw [a1, a2, a3, a4]
/-! ### the lines read back -/
theorem find_w {w : Int} (h : 1 ≤ w) (h2 : w ≤ 6) : Txt.find "0123456" (toString w : Str) = w := by
  have : w = 1 ∨ w = 2 ∨ w = 3 ∨ w = 4 ∨ w = 5 ∨ w = 6 := by omega
  rcases this with rfl | rfl | rfl | rfl | rfl | rfl <;> decide +kernel
def Dp.tl (p : Dp) : List Str := p.cs.map ln2 ++ (p.ps.map ln3 ++ p.ds.map ln4)
def m_law_read_lines : MP := fun ds k => ∃ p : Dp, ds = [.lst (p.tl.map D.str)] ∧ p.ok ∧ k (.fro (.tup [.lst (p.cs.map D.str), .lst (p.ps.map Pr.d), .lst (p.ds.map Dv.d)]))
theorem len_law_read_lines : ∀ ds κ, m_law_read_lines ds κ → ds.length = 1 := by rintro _ _ ⟨_, rfl, _⟩; rfl
theorem mono_law_read_lines : ∀ ds k k', (∀ b, k b → k' b) → m_law_read_lines ds k → m_law_read_lines ds k' := fun _ _ _ f ⟨c, e, h0, h⟩ => ⟨c, e, h0, f _ h⟩
def N_law_read_lines : List Str := ["_law_lines", "_law_spots", "_law_ways", "_law_crew", "_law_line", "_law_words"]
def T_law_read_lines_0_4 : DS :=
    (dRet (dUp (dTup (dCons (dVar 1) (dCons (dVar 2) (dCons (dVar 3) dNil))))))
def T_law_read_lines_2_0 : DS :=
    (dApp 1 (dFz (dOp ixD (dVarQ 5) (dC (.int 1)))))
def T_law_read_lines_4_0 : DS :=
    (dApp 2 (dTup (dCons (dFz (dOp ixD (dVarQ 5) (dC (.int 1)))) (dCons (dFz (dOp ixD (dVarQ 5) (dC (.int 2)))) (dCons (dFz (dOp ixD (dVarQ 5) (dC (.int 3)))) (dCons (dFz (dM1 findD (dC (.str "0123456")) (dFz (dOp ixD (dVarQ 5) (dC (.int 4)))))) dNil))))))
def T_law_read_lines_6_0 : DS :=
    (dApp 3 (dTup (dCons (dFz (dOp ixD (dVarQ 5) (dC (.int 1)))) (dCons (dFz (dOp ixD (dVarQ 5) (dC (.int 2)))) dNil))))
def T_law_read_lines_7_0 : DS :=
    (dRet (dUp (dC .non)))
def T_law_read_lines_5_0 : DS :=
    (dIf (dAnd (dTest (dOp (eqD false) (dFz (dOp ixD (dVarQ 5) (dC (.int 0)))) (dC (.str "delver")))) (dTest (dOp (eqD false) (dFz (dCl lenD (dCons (dVarQ 5) dNil))) (dC (.int 3)))))
    T_law_read_lines_6_0
    T_law_read_lines_7_0)
def T_law_read_lines_3_0 : DS :=
    (dIf (dAnd (dTest (dOp (eqD false) (dFz (dOp ixD (dVarQ 5) (dC (.int 0)))) (dC (.str "passage")))) (dAnd (dTest (dOp (eqD false) (dFz (dCl lenD (dCons (dVarQ 5) dNil))) (dC (.int 5)))) (dTest (dOp (eqD false) (dVarQ 3) (dFz (dLst dNil))))))
    T_law_read_lines_4_0
    T_law_read_lines_5_0)
def T_law_read_lines_1_1 : DS :=
    (dIf (dAnd (dTest (dOp (eqD false) (dFz (dOp ixD (dVarQ 5) (dC (.int 0)))) (dC (.str "chamber")))) (dAnd (dTest (dOp (eqD false) (dFz (dCl lenD (dCons (dVarQ 5) dNil))) (dC (.int 2)))) (dTest (dOp (eqD false) (dFz (dOp addD (dVarQ 2) (dVarQ 3))) (dFz (dLst dNil))))))
    T_law_read_lines_2_0
    T_law_read_lines_3_0)
def T_law_read_lines_1_0 : DS :=
    dSeq (dSet 5 (dM1 splitD (dVar 4) (dC (.str " "))))
    T_law_read_lines_1_1
def T_law_read_lines_0_3 : DS :=
    dSeq (dFor (dISq (dVar 0)) (dGN 4)
    T_law_read_lines_1_0)
    T_law_read_lines_0_4
def T_law_read_lines_0_2 : DS :=
    dSeq (dSet 3 (dLst dNil))
    T_law_read_lines_0_3
def T_law_read_lines_0_1 : DS :=
    dSeq (dSet 2 (dLst dNil))
    T_law_read_lines_0_2
def T_law_read_lines_0_0 : DS :=
    dSeq (dSet 1 (dLst dNil))
    T_law_read_lines_0_1
abbrev T_law_read_lines : DS := T_law_read_lines_0_0
theorem tl_at {p : Dp} {i : Nat} {l : Str} (h : p.tl[i]? = some l) : (∃ c, p.cs[i]? = some c ∧ l = ln2 c) ∨ (p.cs.length ≤ i ∧ ∃ r, p.ps[i - p.cs.length]? = some r ∧ l = ln3 r) ∨ (p.cs.length + p.ps.length ≤ i ∧ ∃ r, p.ds[i - p.cs.length - p.ps.length]? = some r ∧ l = ln4 r) := by
  unfold Dp.tl at h
  by_cases h1 : i < p.cs.length
  · rw [List.getElem?_append_left (by rw [List.length_map]; exact h1), List.getElem?_map] at h
    cases e : p.cs[i]? with
    | none => rw [e] at h; cases h
    | some c => rw [e] at h; exact .inl ⟨c, rfl, (Option.some.inj h).symm⟩
  · rw [List.getElem?_append_right (by rw [List.length_map]; omega), List.length_map] at h
    by_cases h2 : i - p.cs.length < p.ps.length
    · rw [List.getElem?_append_left (by rw [List.length_map]; exact h2), List.getElem?_map] at h
      cases e : p.ps[i - p.cs.length]? with
      | none => rw [e] at h; cases h
      | some c => rw [e] at h; exact .inr (.inl ⟨by omega, c, rfl, (Option.some.inj h).symm⟩)
    · rw [List.getElem?_append_right (by rw [List.length_map]; omega), List.length_map, List.getElem?_map] at h
      cases e : p.ds[i - p.cs.length - p.ps.length]? with
      | none => rw [e] at h; cases h
      | some c => rw [e] at h; exact .inr (.inr ⟨by omega, c, rfl, (Option.some.inj h).symm⟩)
theorem nil_cmp : D.cmp (.lst []) := by
  show PySem.SeqAt.shaped _ = true
  decide +kernel
theorem rd_law_read_lines : ∀ ds κ, m_law_read_lines ds κ → T_law_read_lines ⟨fun _ => κ (.fro .non), rtP κ, fun _ => False, fun _ => False, fun _ _ => False⟩ ⟨startD N_law_read_lines ds, none⟩ := by
  rintro ds κ ⟨p, rfl, ok, h⟩
  have lc := ok.lc
  have lp := ok.lp
  have ld := ok.ld
  walk_at "w"
  walk_at "g"
  refine forL _ (fun i Γ => ∃ (x4 x5 : Option B), Γ = ⟨[some (.fro (.lst (p.tl.map D.str))), ol ((p.cs.take i).map D.str), ol ((p.ps.take (i - p.cs.length)).map Pr.d), ol ((p.ds.take (i - p.cs.length - p.ps.length)).map Dv.d), x4, x5], none⟩) ?_ ?_ _ ⟨none, none, by simp only [Nat.zero_sub, List.take_zero, List.map_nil]; rfl⟩
  · rintro Γ ⟨x4, x5, rfl⟩
    have e : (p.tl.map D.str).length = p.cs.length + (p.ps.length + p.ds.length) := by
      unfold Dp.tl
      simp only [List.length_map, List.length_append]
    rw [e, List.take_of_length_le (by omega), List.take_of_length_le (by omega), List.take_of_length_le (by omega)]
    walk_at "w"
    exact ⟨szl (by show 3 ≤ _; omega), h⟩
  · rintro i d Γ N hd ⟨x4, x5, rfl⟩ hN
    obtain ⟨l, hl, rfl⟩ := map_at hd
    rcases tl_at hl with ⟨c, hc, rfl⟩ | ⟨hi, r, hr, rfl⟩ | ⟨hi, r, hr, rfl⟩
    · have hi := (List.getElem?_eq_some_iff.mp hc).1
      have vc := ok.vc c (List.mem_of_getElem? hc)
      have ll := ln2_len vc
      rw [show i - p.cs.length = 0 by omega, show 0 - p.ps.length = 0 by omega, List.take_zero, List.take_zero, List.map_nil, List.map_nil]
      walk_at "w"
      refine ⟨⟨_, rfl⟩, ?_⟩
      walk_at "w"
      refine ⟨by decide +kernel, sle (by omega), ?_⟩
      rw [spl_2 vc]
      walk_at "w"
      refine ⟨_, rfl, ?_⟩
      walk_at "w"
      refine ⟨fun _ => ?_, fun z => absurd z (by decide +kernel)⟩
      walk_at "w"
      refine ⟨fun _ => ?_, fun z => absurd z (show ¬ (decide ((2 : Int) = 2)) = false by decide)⟩
      walk_at "w"
      refine ⟨sle (by decide), ?_⟩
      walk_at "w"
      walk_at "g"
      refine ⟨nil_cmp, nil_cmp, ?_⟩
      walk_at "w"
      refine ⟨fun _ => ?_, fun z => absurd z (by decide +kernel)⟩
      walk_at "w"
      refine ⟨_, rfl, ?_⟩
      walk_at "w"
      refine ⟨slt (by rw [List.length_map, List.length_take]; omega), ?_⟩
      refine hN _ ⟨some (.fro (.str (ln2 c))), some (.own (.lst ((wd2 c).map D.str))), ?_⟩
      rw [show i + 1 - p.cs.length = 0 by omega, show 0 - p.ps.length = 0 by omega, List.take_zero, List.take_zero, List.map_nil, List.map_nil, List.take_add_one, hc, List.map_append]
      rfl
    · have hj := (List.getElem?_eq_some_iff.mp hr).1
      have hm := List.mem_of_getElem? hr
      have ll := ln3_len ok hm
      have hw := (ok.vp r hm).2.2.2
      rw [show i - p.cs.length - p.ps.length = 0 by omega, List.take_zero, List.map_nil, List.take_of_length_le hi]
      walk_at "w"
      refine ⟨⟨_, rfl⟩, ?_⟩
      walk_at "w"
      refine ⟨by decide +kernel, sle (by omega), ?_⟩
      rw [spl_3 ok hm]
      walk_at "w"
      refine ⟨_, rfl, ?_⟩
      walk_at "w"
      refine ⟨fun z => absurd z (by decide +kernel), fun _ => ?_⟩
      walk_at "w"
      walk_at "g"
      refine ⟨_, rfl, ?_⟩
      walk_at "w"
      refine ⟨fun _ => ?_, fun z => absurd z (by decide +kernel)⟩
      walk_at "w"
      refine ⟨fun _ => ?_, fun z => absurd z (show ¬ (decide ((5 : Int) = 5)) = false by decide)⟩
      walk_at "w"
      walk_at "g"
      refine ⟨nil_cmp, nil_cmp, ?_⟩
      walk_at "w"
      refine ⟨fun _ => ?_, fun z => absurd z (by decide +kernel)⟩
      walk_at "w"
      refine ⟨_, rfl, ?_⟩
      walk_at "w"
      refine ⟨_, rfl, ?_⟩
      walk_at "w"
      refine ⟨_, rfl, ?_⟩
      walk_at "w"
      refine ⟨⟨_, rfl⟩, ?_⟩
      walk_at "w"
      refine ⟨_, rfl, ?_⟩
      walk_at "w"
      rw [find_w hw.1 hw.2]
      refine ⟨szl (by show 4 ≤ _; omega), ?_⟩
      walk_at "w"
      refine ⟨slt (by rw [List.length_map, List.length_take]; omega), ?_⟩
      refine hN _ ⟨some (.fro (.str (ln3 r))), some (.own (.lst ((wd3 r).map D.str))), ?_⟩
      rw [show i + 1 - p.cs.length = i - p.cs.length + 1 by omega, show i - p.cs.length + 1 - p.ps.length = 0 by omega, List.take_zero, List.map_nil, List.take_of_length_le (show p.cs.length ≤ i + 1 by omega), List.take_add_one, hr, List.map_append]
      rfl
    · have hj := (List.getElem?_eq_some_iff.mp hr).1
      have hm := List.mem_of_getElem? hr
      have ll := ln4_len ok hm
      rw [List.take_of_length_le (show p.cs.length ≤ i by omega), List.take_of_length_le (show p.ps.length ≤ i - p.cs.length by omega)]
      walk_at "w"
      refine ⟨⟨_, rfl⟩, ?_⟩
      walk_at "w"
      refine ⟨by decide +kernel, sle (by omega), ?_⟩
      rw [spl_4 ok hm]
      walk_at "w"
      refine ⟨_, rfl, ?_⟩
      walk_at "w"
      refine ⟨fun z => absurd z (by decide +kernel), fun _ => ?_⟩
      walk_at "w"
      walk_at "g"
      refine ⟨_, rfl, ?_⟩
      walk_at "w"
      refine ⟨fun z => absurd z (by decide +kernel), fun _ => ?_⟩
      walk_at "w"
      walk_at "g"
      refine ⟨_, rfl, ?_⟩
      walk_at "w"
      refine ⟨fun _ => ?_, fun z => absurd z (by decide +kernel)⟩
      walk_at "w"
      refine ⟨fun _ => ?_, fun z => absurd z (show ¬ (decide ((3 : Int) = 3)) = false by decide)⟩
      walk_at "w"
      refine ⟨_, rfl, ?_⟩
      walk_at "w"
      refine ⟨_, rfl, ?_⟩
      walk_at "w"
      refine ⟨szl (by show 2 ≤ _; omega), ?_⟩
      walk_at "w"
      refine ⟨slt (by rw [List.length_map, List.length_take]; omega), ?_⟩
      refine hN _ ⟨some (.fro (.str (ln4 r))), some (.own (.lst ((wd4 r).map D.str))), ?_⟩
      rw [show i + 1 - p.cs.length = i - p.cs.length + 1 by omega, show i - p.cs.length + 1 - p.ps.length = i - p.cs.length - p.ps.length + 1 by omega, List.take_of_length_le (show p.cs.length ≤ i + 1 by omega), List.take_of_length_le (show p.ps.length ≤ i - p.cs.length + 1 by omega), List.take_add_one, hr, List.map_append]
      rfl

theorem sjoin_len (y : Str) (h : y.length ≤ 1) : ∀ l : List Str, (Str.join y l).length ≤ (l.map (·.length)).sum + l.length
  | [] => by show Str.empty.length ≤ _; rw [l_emp]; omega
  | [a] => by
    show a.length ≤ _
    simp
  | a :: b :: l => by
    show (a ++ y ++ Str.join y (b :: l)).length ≤ _
    have ih := sjoin_len y h (b :: l)
    rw [sapp_len, sapp_len, List.map_cons, List.sum_cons, List.length_cons]
    omega
theorem txt_len {p : Dp} (ok : p.ok) : p.txt.length ≤ 10000 := by
  unfold Dp.txt
  rw [TL.join_eq]
  have h1 := sjoin_len "\n" (by decide +kernel) p.lns
  have h2 := sum_le (lns_len ok)
  have h3 := (lns_n ok).2
  omega
def m_law_right : MP := fun ds k => ∃ p : Dp, ds = [.str p.norm.txt, p.told] ∧ p.good ∧ k (.fro (.bl true))
theorem len_law_right : ∀ ds κ, m_law_right ds κ → ds.length = 2 := by rintro _ _ ⟨_, rfl, _⟩; rfl
theorem mono_law_right : ∀ ds k k', (∀ b, k b → k' b) → m_law_right ds k → m_law_right ds k' := fun _ _ _ f ⟨c, e, h0, h⟩ => ⟨c, e, h0, f _ h⟩
def N_law_right : List Str := ["_law_text", "_law_parts", "_law_lines"]
def T_law_right_0_4 : DS :=
    (dRet (dOp (eqD false) (dVarQ 0) (dFz (dM1 joinD (dC (.str "\n")) (dFz (dCall m_law_deep_lines [] (dCons (dVar 1) dNil)))))))
def T_law_right_1_0 : DS :=
    (dRet (dUp (dC (.bl false))))
def T_law_right_0_3 : DS :=
    dSeq (dIf (dNot (dTest (dCall m_law_same [] (dCons (dFz (dCall m_law_read_lines [] (dCons (dFz (dSl (dVarQ 2) (dPart (dC (.int 1))) dNoP)) dNil))) (dCons (dTup (dCons (dFz (dCall m_law_known [] (dCons (dVar 1) (dCons (dC (.int 0)) dNil)))) (dCons (dFz (dCall m_law_entries [] (dCons (dVar 1) dNil))) (dCons (dFz (dCl sortAD (dCons (dFz (dCl lstCD (dCons (dFz (dOp ixD (dVarQ 1) (dC (.int 2)))) dNil))) dNil))) dNil)))) dNil)))))
    T_law_right_1_0
    dNext)
    T_law_right_0_4
def T_law_right_2_0 : DS :=
    (dRet (dUp (dC (.bl false))))
def T_law_right_0_2 : DS :=
    dSeq (dIf (dOr (dTest (dOp (eqD true) (dFz (dCl lenD (dCons (dVarQ 2) dNil))) (dFz (dOp addD (dFz (dOp addD (dFz (dOp addD (dC (.int 1)) (dFz (dCl lenD (dCons (dFz (dOp ixD (dVarQ 1) (dC (.int 0)))) dNil))))) (dFz (dCl lenD (dCons (dFz (dOp ixD (dVarQ 1) (dC (.int 1)))) dNil))))) (dFz (dCl lenD (dCons (dFz (dOp ixD (dVarQ 1) (dC (.int 2)))) dNil))))))) (dTest (dOp (eqD true) (dFz (dOp ixD (dVarQ 2) (dC (.int 0)))) (dFz (dOp addD (dC (.str "deep ")) (dFz (dCl strCD (dCons (dFz (dOp ixD (dVarQ 1) (dC (.int 3)))) dNil))))))))
    T_law_right_2_0
    dNext)
    T_law_right_0_3
def T_law_right_0_1 : DS :=
    dSeq (dSet 2 (dM1 splitD (dVar 0) (dC (.str "\n"))))
    T_law_right_0_2
def T_law_right_3_0 : DS :=
    (dRet (dUp (dC (.bl false))))
def T_law_right_0_0 : DS :=
    dSeq (dIf (dNot (dTest (dIsa .str (dVarQ 0))))
    T_law_right_3_0
    dNext)
    T_law_right_0_1
abbrev T_law_right : DS := T_law_right_0_0
theorem rd_law_right : ∀ ds κ, m_law_right ds κ → T_law_right ⟨fun _ => κ (.fro .non), rtP κ, fun _ => False, fun _ => False, fun _ _ => False⟩ ⟨startD N_law_right ds, none⟩ := by
  rintro ds κ ⟨p, rfl, ok, h⟩
  have nk := ok.norm
  have lt := txt_len nk
  have ln := lns_n nk
  walk_at "w"
  walk_at "g"
  refine ⟨⟨_, rfl⟩, ?_⟩
  walk_at "w"
  refine ⟨by decide +kernel, sle (by omega), ?_⟩
  rw [lns_split nk]
  walk_at "w"
  refine ⟨_, rfl, ?_⟩
  walk_at "w"
  refine ⟨_, rfl, ?_⟩
  walk_at "w"
  refine ⟨_, rfl, ?_⟩
  walk_at "w"
  have el : ((p.norm.lns.map D.str).length : Int) = 1 + (p.cs.map D.str).length + (p.ps.map Pr.d).length + (p.ds.map Dv.d).length := by
    have e1 : p.norm.cs.length = p.cs.length := srtS_len _
    have e2 : p.norm.ps.length = p.ps.length := (srtR_len _ _).trans (List.length_map ..)
    have e3 : p.norm.ds.length = p.ds.length := srtR_len _ _
    simp only [List.length_map]
    omega
  refine ⟨fun z => absurd z (by show ¬ (!decide _) = true; rw [decide_eq_true el]; decide), fun _ => ?_⟩
  walk_at "w"
  refine ⟨.str (ln1 p.rope), atI_nat (j := 0) rfl, ?_⟩
  walk_at "w"
  refine ⟨_, rfl, ?_⟩
  walk_at "w"
  refine ⟨log_i (by have := ok.ro; omega) (by have := ok.ro; omega), ?_⟩
  walk_at "w"
  have lr := ln1_len nk
  refine ⟨sle (by have : (ln1 p.rope).length ≤ 100 := lr; unfold ln1 at this; rw [sapp_len] at this; omega), ?_⟩
  walk_at "w"
  refine ⟨fun z => absurd z (by show ¬ (!decide (ln1 p.rope = ln1 p.rope)) = true; rw [decide_eq_true rfl]; decide), fun _ => ?_⟩
  walk_at "w"
  rw [show (1 : Int) = ((1 : Nat) : Int) from rfl, cut_from, show (p.norm.lns.map D.str).drop 1 = p.norm.tl.map D.str from rfl]
  walk_at "w"
  refine ⟨p.norm, rfl, nk, ?_⟩
  walk_at "w"
  refine ⟨p, 0, rfl, ok.took, .inl rfl, ?_⟩
  walk_at "w"
  refine ⟨p, rfl, ok.took, ?_⟩
  walk_at "w"
  refine ⟨_, rfl, ?_⟩
  walk_at "w"
  refine ⟨ok_dv ok.sd, ?_⟩
  rw [srt_dv ok.nd]
  walk_at "w"
  refine ⟨szl (by show 3 ≤ _; omega), ?_⟩
  walk_at "w"
  refine same_yes (a := .tup [.lst (p.norm.cs.map D.str), .lst (p.norm.ps.map Pr.d), .lst (p.norm.ds.map Dv.d)]) (d := .tup [.lst ((p.kn 0).map D.str), .lst (p.norm.ps.map Pr.d), .lst ((srtR Dv.n p.ds).map Dv.d)]) rfl ⟨by show 3 < _; omega, fun x hx => ?_⟩ ?_
  · simp only [List.mem_cons, List.not_mem_nil, or_false] at hx
    have := nk.lc
    have := nk.lp
    have := nk.ld
    rcases hx with rfl | rfl | rfl
    · exact dn_strs (by omega)
    · exact dn_prs (by omega)
    · exact dn_dvs (by omega)
  walk_at "w"
  walk_at "g"
  refine ⟨⟨_, rfl⟩, ?_⟩
  walk_at "w"
  refine ⟨p, rfl, ok, ?_⟩
  walk_at "w"
  have e : ("\n" : Str).length = 1 := by decide +kernel
  refine ⟨p.norm.lns, rfl, ?_, ?_⟩
  · have := sum_le (lns_len nk)
    rw [e]
    omega
  walk_at "w"
  have e2 : decide (p.norm.txt = Txt.join "\n" p.norm.lns) = true := decide_eq_true rfl
  show κ (.fro (.bl (decide (p.norm.txt = Txt.join "\n" p.norm.lns))))
  rw [e2]
  exact h

/-! ### the law -/
def m_law : MP := fun ds k => ∃ ns : List Int, ds = [.scr ns] ∧ ns.length ≤ 63 ∧ k (.fro (.bl true))
theorem len_law : ∀ ds κ, m_law ds κ → ds.length = 1 := by rintro _ _ ⟨_, rfl, _⟩; rfl
theorem mono_law : ∀ ds k k', (∀ b, k b → k' b) → m_law ds k → m_law ds k' := fun _ _ _ f ⟨m, e, h0, h⟩ => ⟨m, e, h0, f _ h⟩
def N_law : List Str := ["_law_script", "_law_store_here", "_law_parts", "_law_others", "_law_more", "_law_rows", "_law_deeps", "_law_texts", "_law_k", "_law_j", "_law_row", "_law_deep"]
def T_law_0_9 : DS :=
    (dRet (dUp (dC (.bl true))))
def T_law_3_0 : DS :=
    (dRet (dUp (dC (.bl false))))
def T_law_2_0 : DS :=
    (dIf (dNot (dTest (dCall m_law_same [] (dCons (dFz (dOp (eqD false) (dFz (dOp ixD (dVarQ 7) (dVarQ 8))) (dFz (dOp ixD (dVarQ 7) (dVarQ 9))))) (dCons (dFz (dCall m_law_same_deep [] (dCons (dFz (dOp ixD (dVarQ 5) (dVarQ 8))) (dCons (dFz (dOp ixD (dVarQ 5) (dVarQ 9))) dNil)))) dNil)))))
    T_law_3_0
    dNext)
def T_law_1_2 : DS :=
    (dFor (dIR1 (dFz (dCl lenD (dCons (dVarQ 5) dNil)))) (dGN 9)
    T_law_2_0)
def T_law_4_0 : DS :=
    (dRet (dUp (dC (.bl false))))
def T_law_1_1 : DS :=
    dSeq (dIf (dNot (dTest (dCall m_law_is_deep [] (dCons (dFz (dOp ixD (dVarQ 6) (dVarQ 8))) (dCons (dFz (dOp ixD (dVarQ 5) (dVarQ 8))) dNil)))))
    T_law_4_0
    dNext)
    T_law_1_2
def T_law_5_0 : DS :=
    (dRet (dUp (dC (.bl false))))
def T_law_1_0 : DS :=
    dSeq (dIf (dOr (dNot (dTest (dCall m_law_right [] (dCons (dFz (dOp ixD (dVarQ 7) (dVarQ 8))) (dCons (dFz (dOp ixD (dVarQ 5) (dVarQ 8))) dNil))))) (dNot (dTest (dCall m_law_right [] (dCons (dFz (dCall m_deep_text [] (dCons (dFz (dOp ixD (dVarQ 6) (dVarQ 8))) dNil))) (dCons (dFz (dOp ixD (dVarQ 5) (dVarQ 8))) dNil))))))
    T_law_5_0
    dNext)
    T_law_1_1
def T_law_0_8 : DS :=
    dSeq (dFor (dIR1 (dFz (dCl lenD (dCons (dVarQ 5) dNil)))) (dGN 8)
    T_law_1_0)
    T_law_0_9
def T_law_0_7 : DS :=
    dSeq (dSet 7 (dLc (dISq (dVar 6)) (dGN 11) dYes (dFz (dCall m_deep_text [] (dCons (dVar 11) dNil))) [11]))
    T_law_0_8
def T_law_0_6 : DS :=
    dSeq (dSet 6 (dLc (dISq (dVar 5)) (dGN 10) dYes (dFz (dCall m_law_make [] (dCons (dVar 10) dNil))) [10]))
    T_law_0_7
def T_law_0_5 : DS :=
    dSeq (dSet 5 (dLst (dCons (dVar 2) (dCons (dVar 3) (dCons (dFz (dCallS m_law_retold 1 (dCons (dVar 2) dNil))) (dCons (dVar 4) dNil))))))
    T_law_0_6
def T_law_6_0 : DS :=
    (dSet 4 (dUp (dTup (dCons (dFz (dOp addD (dFz (dOp ixD (dVarQ 2) (dC (.int 0)))) (dFz (dLst (dCons (dFz (dCall m_law_fresh [] (dCons (dC (.str "")) (dCons (dFz (dOp ixD (dVarQ 2) (dC (.int 0)))) dNil)))) dNil))))) (dCons (dFz (dOp ixD (dVarQ 2) (dC (.int 1)))) (dCons (dFz (dOp ixD (dVarQ 2) (dC (.int 2)))) (dCons (dFz (dOp ixD (dVarQ 2) (dC (.int 3)))) dNil)))))))
def T_law_0_4 : DS :=
    dSeq (dIf (dAnd (dTest (dOp ltD (dFz (dCl lenD (dCons (dFz (dOp ixD (dVarQ 2) (dC (.int 0)))) dNil))) (dC (.int 10)))) (dTest (dOp (eqD false) (dFz (dCallS m_law_take 1 (dCons (dC (.int 2)) dNil))) (dC (.int 1)))))
    T_law_6_0
    dNext)
    T_law_0_5
def T_law_0_3 : DS :=
    dSeq (dSet 4 (dUp (dTup (dCons (dFz (dOp ixD (dVarQ 2) (dC (.int 0)))) (dCons (dFz (dOp ixD (dVarQ 2) (dC (.int 1)))) (dCons (dFz (dOp ixD (dVarQ 2) (dC (.int 2)))) (dCons (dFz (dOp addD (dC (.int 1)) (dFz (dCallS m_law_take 1 (dCons (dC (.int 12)) dNil))))) dNil)))))))
    T_law_0_4
def T_law_0_2 : DS :=
    dSeq (dSet 3 (dCallS m_law_good_deep 1 dNil))
    T_law_0_3
def T_law_0_1 : DS :=
    dSeq (dSet 2 (dCallS m_law_good_deep 1 dNil))
    T_law_0_2
def T_law_0_0 : DS :=
    dSeq (dSetSto 1 (dCall m_law_store [] (dCons (dVar 0) dNil)))
    T_law_0_1
abbrev T_law : DS := T_law_0_0
section
variable {De : En} {ns : List Int} {x2 x3 x4 x8 x9 : Option B} {qs : List Dp} {S : Sto}
abbrev lwE (ns : List Int) (x2 x3 x4 : Option B) (qs : List Dp) (x6 x7 x8 x9 : Option B) (S : Sto) : Ev := ⟨[some (.fro (.scr ns)), bS, x2, x3, x4, some (.fro (.lst (qs.map Dp.told))), x6, x7, x8, x9, none, none], some S⟩
abbrev dpsB (qs : List Dp) : Option B := some (.fro (.lst (qs.map fun q => q.norm.d)))
abbrev txsB (qs : List Dp) : Option B := some (.own (.lst (qs.map fun q => .str q.norm.txt)))
theorem lw8 (ok : ∀ q ∈ qs, q.good) (hl : qs.length ≤ 10) (h : De.rt (.fro (.bl true)) (some S)) : T_law_0_8 De (lwE ns x2 x3 x4 qs (dpsB qs) (txsB qs) x8 x9 S) := by
  walk_at "w"
  rw [List.length_map]
  refine And.intro (show bnd _ from ⟨by omega, by omega⟩) ?_
  rw [Int.toNat_natCast]
  refine forR (fun i Γ => ∃ x8 x9, Γ = lwE ns x2 x3 x4 qs (dpsB qs) (txsB qs) x8 x9 S) ?_ ?_ _ ⟨_, _, rfl⟩
  · rintro Γ ⟨x8, x9, rfl⟩
    walk_at "w"
    exact h
  · rintro i Γ N hi ⟨x8, x9, rfl⟩ hN
    obtain ⟨q, hq⟩ : ∃ q, qs[i]? = some q := ⟨_, List.getElem?_eq_getElem hi⟩
    have gq := ok q (List.mem_of_getElem? hq)
    have i5 : atI (qs.map Dp.told) (0 + (i : Nat) : Int) = some q.told := by rw [Int.zero_add]; exact atI_nat (by rw [List.getElem?_map, hq]; rfl)
    have i6 : atI (qs.map fun q => q.norm.d) (0 + (i : Nat) : Int) = some q.norm.d := by rw [Int.zero_add]; exact atI_nat (by rw [List.getElem?_map, hq]; rfl)
    have i7 : atI (qs.map fun q => D.str q.norm.txt) (0 + (i : Nat) : Int) = some (.str q.norm.txt) := by rw [Int.zero_add]; exact atI_nat (by rw [List.getElem?_map, hq]; rfl)
    walk_at "w"
    refine ⟨_, i7, ?_⟩
    walk_at "w"
    refine ⟨_, i5, ?_⟩
    walk_at "w"
    refine ⟨q, rfl, gq, ?_⟩
    walk_at "w"
    walk_at "g"
    refine ⟨_, i6, ?_⟩
    walk_at "w"
    refine ⟨q.norm, rfl, gq.norm, ?_⟩
    walk_at "w"
    refine ⟨_, i5, ?_⟩
    walk_at "w"
    refine ⟨q, rfl, gq, ?_⟩
    walk_at "w"
    walk_at "g"
    refine ⟨_, i6, ?_⟩
    walk_at "w"
    refine ⟨_, i5, ?_⟩
    walk_at "w"
    refine ⟨q, rfl, gq, ?_⟩
    walk_at "w"
    walk_at "g"
    rw [List.length_map]
    refine And.intro (show bnd _ from ⟨by omega, by omega⟩) ?_
    rw [Int.toNat_natCast]
    refine forR (fun j Γ => ∃ x9, Γ = lwE ns x2 x3 x4 qs (dpsB qs) (txsB qs) (some (.fro (.int (0 + (i : Nat))))) x9 S) ?_ ?_ _ ⟨_, rfl⟩
    · rintro Γ ⟨x9, rfl⟩
      exact hN _ ⟨_, x9, rfl⟩
    · rintro j Γ N2 hj ⟨x9, rfl⟩ hN2
      obtain ⟨r, hr⟩ : ∃ r, qs[j]? = some r := ⟨_, List.getElem?_eq_getElem hj⟩
      have gr := ok r (List.mem_of_getElem? hr)
      have j5 : atI (qs.map Dp.told) (0 + (j : Nat) : Int) = some r.told := by rw [Int.zero_add]; exact atI_nat (by rw [List.getElem?_map, hr]; rfl)
      have j7 : atI (qs.map fun q => D.str q.norm.txt) (0 + (j : Nat) : Int) = some (.str r.norm.txt) := by rw [Int.zero_add]; exact atI_nat (by rw [List.getElem?_map, hr]; rfl)
      walk_at "w"
      refine ⟨_, i7, ?_⟩
      walk_at "w"
      refine ⟨_, j7, ?_⟩
      walk_at "w"
      refine ⟨_, i5, ?_⟩
      walk_at "w"
      refine ⟨_, j5, ?_⟩
      walk_at "w"
      refine ⟨q, r, rfl, gq.took, gr.took, fun b hb => ?_⟩
      have e : (.bl (decide (q.norm.txt = r.norm.txt)) : D) = .bl b := by
        congr 1
        rw [Bool.eq_iff_iff, decide_eq_true_eq, hb]
        exact ⟨fun z => txt_inj gq.norm gr.norm z, fun z => by rw [z]⟩
      walk_at "w"
      refine same_yes (a := .bl (decide (q.norm.txt = r.norm.txt))) (d := .bl b) e trivial ?_
      walk_at "w"
      walk_at "g"
      exact hN2 _ ⟨_, rfl⟩
theorem lw6 (ok : ∀ q ∈ qs, q.good) (hl : qs.length ≤ 10) (h : De.rt (.fro (.bl true)) (some S)) : T_law_0_6 De ⟨[some (.fro (.scr ns)), bS, x2, x3, x4, ol (qs.map Dp.told), none, none, none, none, none, none], some S⟩ := by
  walk_at "w"
  refine lcM (val := fun q => q.norm.d) (by omega) ?_ fun q N hq hN => ?_
  · show T_law_0_7 _ ⟨[some (.fro (.scr ns)), bS, x2, x3, x4, some (.fro (.lst (qs.map Dp.told))), some (.own (.lst (qs.map fun q => q.norm.d))), none, none, none, none, none], some S⟩
    walk_at "w"
    refine lcM (val := fun q => .str q.norm.txt) (by omega) ?_ fun q N hq hN => ?_
    · exact lw8 ok hl h
    · walk_at "w"
      exact ⟨q.norm, rfl, (ok q hq).norm, hN⟩
  · walk_at "w"
    exact ⟨q, rfl, ok q hq, hN⟩
end
theorem rd_law : ∀ ds κ, m_law ds κ → T_law ⟨fun _ => κ (.fro .non), rtP κ, fun _ => False, fun _ => False, fun _ _ => False⟩ ⟨startD N_law ds, none⟩ := by
  rintro ds κ ⟨ns, rfl, hl, h⟩
  walk_at "w"
  refine ⟨ns, rfl, hl, fun S0 _ => ?_⟩
  walk_at "w"
  refine And.intro rfl ⟨S0, rfl, ?_⟩
  walk_at "w"
  refine ⟨rfl, fun p S1 gp => ?_⟩
  walk_at "w"
  refine ⟨rfl, fun q S2 gq => ?_⟩
  show T_law_0_3 _ ⟨[some (.fro (.scr ns)), bS, some (.fro p.told), some (.fro q.told), none, none, none, none, none, none, none, none], some S2⟩
  walk_at "w"
  refine ⟨_, rfl, ?_⟩
  walk_at "w"
  refine ⟨_, rfl, ?_⟩
  walk_at "w"
  refine ⟨_, rfl, ?_⟩
  walk_at "w"
  refine ⟨_, rfl, by decide, fun t S3 t0 t1 _ => ?_⟩
  have t1 := t1 (by decide)
  walk_at "w"
  refine ⟨szl (by show 4 ≤ _; omega), ?_⟩
  have fin : ∀ (m : Dp) (S4 : Sto), m.good → T_law_0_5 ⟨fun _ => κ (.fro .non), rtP κ, fun _ => False, fun _ => False, fun _ _ => False⟩ ⟨[some (.fro (.scr ns)), bS, some (.fro p.told), some (.fro q.told), some (.fro m.told), none, none, none, none, none, none, none], some S4⟩ := fun m S4 gm => by
    walk_at "w"
    refine ⟨p, rfl, gp, fun r S5 gr _ => ?_⟩
    walk_at "w"
    refine ⟨szl (by show 4 ≤ _; omega), ?_⟩
    refine lw6 (qs := [p, q, r, m]) (fun z hz => ?_) (by simp) h
    simp only [List.mem_cons, List.not_mem_nil, or_false] at hz
    rcases hz with rfl | rfl | rfl | rfl <;> assumption
  have g1 : (Dp.mk p.cs p.ps p.ds (1 + t)).good := ⟨⟨gp.nc, gp.lc, gp.vc, gp.np, gp.lp, gp.vp, gp.nd, gp.ld, gp.vd, by show 1 ≤ 1 + t ∧ 1 + t ≤ 12; omega⟩, gp.ne⟩
  show T_law_0_4 _ ⟨[some (.fro (.scr ns)), bS, some (.fro p.told), some (.fro q.told), some (.fro (Dp.mk p.cs p.ps p.ds (1 + t)).told), none, none, none, none, none, none, none], some S3⟩
  walk_at "w"
  refine ⟨_, rfl, ?_⟩
  walk_at "w"
  refine ⟨fun z => ?_, fun z => ?_⟩
  rotate_left
  · walk_at "w"
    walk_at "g"
    exact fin _ _ g1
  have z : (p.cs.map D.str).length < (10 : Int) := of_decide_eq_true z
  rw [List.length_map] at z
  walk_at "w"
  refine ⟨_, rfl, by decide, fun u S4 _ _ _ => ?_⟩
  walk_at "w"
  refine ⟨fun _ => ?_, fun _ => ?_⟩
  rotate_left
  · exact fin _ _ g1
  walk_at "w"
  refine ⟨_, rfl, ?_⟩
  walk_at "w"
  refine ⟨_, rfl, ?_⟩
  walk_at "w"
  refine ⟨_, p.cs, rfl, by decide +kernel, by omega, fun w vw nw => ?_⟩
  walk_at "w"
  walk_at "g"
  refine ⟨sle (by rw [List.length_map]; show _ + 1 ≤ _; omega), ?_⟩
  walk_at "w"
  refine ⟨_, rfl, ?_⟩
  walk_at "w"
  refine ⟨_, rfl, ?_⟩
  walk_at "w"
  refine ⟨_, rfl, ?_⟩
  walk_at "w"
  refine ⟨szl (by show 4 ≤ _; omega), ?_⟩
  have g2 : (Dp.mk (p.cs ++ [w]) p.ps p.ds p.rope).good := by
    refine ⟨⟨?_, ?_, fun c hc => ?_, gp.np, gp.lp, fun r hr => ?_, gp.nd, gp.ld, fun d hd => ?_, gp.ro⟩, gp.ne⟩
    · show (p.cs ++ [w]).Nodup
      rw [List.nodup_append]
      exact ⟨gp.nc, by simp, fun a ha b hb e => nw (by rw [List.mem_singleton.mp hb] at e; exact e ▸ ha)⟩
    · show (p.cs ++ [w]).length ≤ 10
      rw [List.length_append]
      show _ + 1 ≤ _
      omega
    · rcases List.mem_append.mp hc with q | q
      · exact gp.vc c q
      · rw [List.mem_singleton.mp q]
        exact vw
    · obtain ⟨a1, a2, a3, a4⟩ := gp.vp r hr
      exact ⟨a1, List.mem_append_left _ a2, List.mem_append_left _ a3, a4⟩
    · obtain ⟨a1, a2⟩ := gp.vd d hd
      exact ⟨a1, List.mem_append_left _ a2⟩
  have := fin _ S4 g2
  rw [show (Dp.mk (p.cs ++ [w]) p.ps p.ds p.rope).told = .tup [.lst (p.cs.map D.str ++ [.str w]), .lst (p.ps.map Pr.d), .lst (p.ds.map Dv.d), .int p.rope] from by unfold Dp.told; rw [List.map_append]; rfl] at this
  exact this

section
variable {P : Program} {w : World} {K : PySem.W.Frag} {mg : Str → Option Value} {base : Heap} {tab : Tab}
theorem fi_BadName {C fI cI cc : Addr} {oc : Value} {od an : Option Addr} {osl : Array (Option Value)} {kV doc pm ctv : Value} (g : mg "BadName" = some (.ref C)) (su : mg "super" = none) (i : PySem.W.findIn K (.ref C) "__init__" = some (some (.ref fI)))
    (lk : K.lookup fI = some ⟨oc, od, .func (PySem.W.fnX "__init__" "BadName.__init__" (defArgs sI_BadName) (defBody sI_BadName) (defScope sI_BadName) [(("__class__" : Str), cc)] .none kV doc pm an (.ref cI) ctv), osl⟩) (E : ExB K C (flN "BadName")) (B : IniB P K fI C cI cc "BadName.__init__") : Fi P w K mg base 1 "BadName" [("value", 1)] 1 [1] := by
  have S : NdefX.NScope ["self", "value", "__class__"] ["self", "value"] ["__class__"] (defScope sI_BadName) := NdefX.nscope_by (by decide +kernel)
  obtain ⟨fd, hF, _, _, _, _, _, _, _, _, _, _, lk'⟩ := ini_plain (CX := CX0) (P := P) (w := w) (mg := mg) (base := base) (k := 0) [("value", 1)] [.v 1, .c " is not a name"] (iniK_of (ps := ["self", "value"]) lk E B su rfl rfl rfl rfl) S rfl E.ox (by decide) (by decide)
    (fun p hp => ⟨(show ∀ p ∈ ([("value", 1)] : List (Str × Nat)), p.2 < 2 by decide +kernel) p hp, E.fl p.1 ((show ∀ p ∈ ([("value", 1)] : List (Str × Nat)), p.1 ∈ flN "BadName" by decide +kernel) p hp)⟩) (by decide) (by decide) (by decide +kernel) (fun L => ⟨_, rfl⟩) (fun L => rfl) (fun L => rfl)
    (fun A outer s H E => pe_joined (.cons (pe_txR (pv 1)) (.cons pe_str .nil))) (fun A outer s H E => (pss_cons (ps_ost (pv 0) (pv 1)) pss_nil))
  have e := lk'.symm.trans lk
  injection e with e
  injection e with _ _ e _
  injection e with e
  subst e
  exact fi_of g E B i hF (Binds.all fun us hl => match us, hl with | [_, _], _ => rfl)
theorem fi_BadNumber {C fI cI cc : Addr} {oc : Value} {od an : Option Addr} {osl : Array (Option Value)} {kV doc pm ctv : Value} (g : mg "BadNumber" = some (.ref C)) (su : mg "super" = none) (i : PySem.W.findIn K (.ref C) "__init__" = some (some (.ref fI)))
    (lk : K.lookup fI = some ⟨oc, od, .func (PySem.W.fnX "__init__" "BadNumber.__init__" (defArgs sI_BadNumber) (defBody sI_BadNumber) (defScope sI_BadNumber) [(("__class__" : Str), cc)] .none kV doc pm an (.ref cI) ctv), osl⟩) (E : ExB K C (flN "BadNumber")) (B : IniB P K fI C cI cc "BadNumber.__init__") : Fi P w K mg base 1 "BadNumber" [("value", 1), ("low", 2), ("high", 3)] 3 [1, 2, 3] := by
  have S : NdefX.NScope ["self", "value", "low", "high", "__class__"] ["self", "value", "low", "high"] ["__class__"] (defScope sI_BadNumber) := NdefX.nscope_by (by decide +kernel)
  obtain ⟨fd, hF, _, _, _, _, _, _, _, _, _, _, lk'⟩ := ini_plain (CX := CX0) (P := P) (w := w) (mg := mg) (base := base) (k := 0) [("value", 1), ("low", 2), ("high", 3)] [.v 1, .c " is not a number from ", .v 2, .c " to ", .v 3] (iniK_of (ps := ["self", "value", "low", "high"]) lk E B su rfl rfl rfl rfl) S rfl E.ox (by decide) (by decide)
    (fun p hp => ⟨(show ∀ p ∈ ([("value", 1), ("low", 2), ("high", 3)] : List (Str × Nat)), p.2 < 4 by decide +kernel) p hp, E.fl p.1 ((show ∀ p ∈ ([("value", 1), ("low", 2), ("high", 3)] : List (Str × Nat)), p.1 ∈ flN "BadNumber" by decide +kernel) p hp)⟩) (by decide) (by decide) (by decide +kernel) (fun L => ⟨_, rfl⟩) (fun L => rfl) (fun L => rfl)
    (fun A outer s H E => pe_joined (.cons (pe_tx (pv 1)) (.cons pe_str (.cons (pe_tx (pv 2)) (.cons pe_str (.cons (pe_tx (pv 3)) .nil)))))) (fun A outer s H E => (pss_cons (ps_ost (pv 0) (pv 1)) (pss_cons (ps_ost (pv 0) (pv 2)) (pss_cons (ps_ost (pv 0) (pv 3)) pss_nil))))
  have e := lk'.symm.trans lk
  injection e with e
  injection e with _ _ e _
  injection e with e
  subst e
  exact fi_of g E B i hF (Binds.all fun us hl => match us, hl with | [_, _, _, _], _ => rfl)
theorem fi_Unknown {C fI cI cc : Addr} {oc : Value} {od an : Option Addr} {osl : Array (Option Value)} {kV doc pm ctv : Value} (g : mg "Unknown" = some (.ref C)) (su : mg "super" = none) (i : PySem.W.findIn K (.ref C) "__init__" = some (some (.ref fI)))
    (lk : K.lookup fI = some ⟨oc, od, .func (PySem.W.fnX "__init__" "Unknown.__init__" (defArgs sI_Unknown) (defBody sI_Unknown) (defScope sI_Unknown) [(("__class__" : Str), cc)] .none kV doc pm an (.ref cI) ctv), osl⟩) (E : ExB K C (flN "Unknown")) (B : IniB P K fI C cI cc "Unknown.__init__") : Fi P w K mg base 1 "Unknown" [("kind", 1), ("name", 2)] 2 [1, 2] := by
  have S : NdefX.NScope ["self", "kind", "name", "__class__"] ["self", "kind", "name"] ["__class__"] (defScope sI_Unknown) := NdefX.nscope_by (by decide +kernel)
  obtain ⟨fd, hF, _, _, _, _, _, _, _, _, _, _, lk'⟩ := ini_plain (CX := CX0) (P := P) (w := w) (mg := mg) (base := base) (k := 0) [("kind", 1), ("name", 2)] [.c "there is no ", .v 1, .c " ", .v 2] (iniK_of (ps := ["self", "kind", "name"]) lk E B su rfl rfl rfl rfl) S rfl E.ox (by decide) (by decide)
    (fun p hp => ⟨(show ∀ p ∈ ([("kind", 1), ("name", 2)] : List (Str × Nat)), p.2 < 3 by decide +kernel) p hp, E.fl p.1 ((show ∀ p ∈ ([("kind", 1), ("name", 2)] : List (Str × Nat)), p.1 ∈ flN "Unknown" by decide +kernel) p hp)⟩) (by decide) (by decide) (by decide +kernel) (fun L => ⟨_, rfl⟩) (fun L => rfl) (fun L => rfl)
    (fun A outer s H E => pe_joined (.cons pe_str (.cons (pe_tx (pv 1)) (.cons pe_str (.cons (pe_txR (pv 2)) .nil))))) (fun A outer s H E => (pss_cons (ps_ost (pv 0) (pv 1)) (pss_cons (ps_ost (pv 0) (pv 2)) pss_nil)))
  have e := lk'.symm.trans lk
  injection e with e
  injection e with _ _ e _
  injection e with e
  subst e
  exact fi_of g E B i hF (Binds.all fun us hl => match us, hl with | [_, _, _], _ => rfl)
theorem fi_Twice {C fI cI cc : Addr} {oc : Value} {od an : Option Addr} {osl : Array (Option Value)} {kV doc pm ctv : Value} (g : mg "Twice" = some (.ref C)) (su : mg "super" = none) (i : PySem.W.findIn K (.ref C) "__init__" = some (some (.ref fI)))
    (lk : K.lookup fI = some ⟨oc, od, .func (PySem.W.fnX "__init__" "Twice.__init__" (defArgs sI_Twice) (defBody sI_Twice) (defScope sI_Twice) [(("__class__" : Str), cc)] .none kV doc pm an (.ref cI) ctv), osl⟩) (E : ExB K C (flN "Twice")) (B : IniB P K fI C cI cc "Twice.__init__") : Fi P w K mg base 1 "Twice" [("kind", 1), ("name", 2)] 2 [1, 2] := by
  have S : NdefX.NScope ["self", "kind", "name", "__class__"] ["self", "kind", "name"] ["__class__"] (defScope sI_Twice) := NdefX.nscope_by (by decide +kernel)
  obtain ⟨fd, hF, _, _, _, _, _, _, _, _, _, _, lk'⟩ := ini_plain (CX := CX0) (P := P) (w := w) (mg := mg) (base := base) (k := 0) [("kind", 1), ("name", 2)] [.c "the ", .v 1, .c " ", .v 2, .c " is named twice"] (iniK_of (ps := ["self", "kind", "name"]) lk E B su rfl rfl rfl rfl) S rfl E.ox (by decide) (by decide)
    (fun p hp => ⟨(show ∀ p ∈ ([("kind", 1), ("name", 2)] : List (Str × Nat)), p.2 < 3 by decide +kernel) p hp, E.fl p.1 ((show ∀ p ∈ ([("kind", 1), ("name", 2)] : List (Str × Nat)), p.1 ∈ flN "Twice" by decide +kernel) p hp)⟩) (by decide) (by decide) (by decide +kernel) (fun L => ⟨_, rfl⟩) (fun L => rfl) (fun L => rfl)
    (fun A outer s H E => pe_joined (.cons pe_str (.cons (pe_tx (pv 1)) (.cons pe_str (.cons (pe_txR (pv 2)) (.cons pe_str .nil)))))) (fun A outer s H E => (pss_cons (ps_ost (pv 0) (pv 1)) (pss_cons (ps_ost (pv 0) (pv 2)) pss_nil)))
  have e := lk'.symm.trans lk
  injection e with e
  injection e with _ _ e _
  injection e with e
  subst e
  exact fi_of g E B i hF (Binds.all fun us hl => match us, hl with | [_, _, _], _ => rfl)
theorem fi_SameEnds {C fI cI cc : Addr} {oc : Value} {od an : Option Addr} {osl : Array (Option Value)} {kV doc pm ctv : Value} (g : mg "SameEnds" = some (.ref C)) (su : mg "super" = none) (i : PySem.W.findIn K (.ref C) "__init__" = some (some (.ref fI)))
    (lk : K.lookup fI = some ⟨oc, od, .func (PySem.W.fnX "__init__" "SameEnds.__init__" (defArgs sI_SameEnds) (defBody sI_SameEnds) (defScope sI_SameEnds) [(("__class__" : Str), cc)] .none kV doc pm an (.ref cI) ctv), osl⟩) (E : ExB K C (flN "SameEnds")) (B : IniB P K fI C cI cc "SameEnds.__init__") : Fi P w K mg base 1 "SameEnds" [("passage", 1)] 1 [1] := by
  have S : NdefX.NScope ["self", "passage", "__class__"] ["self", "passage"] ["__class__"] (defScope sI_SameEnds) := NdefX.nscope_by (by decide +kernel)
  obtain ⟨fd, hF, _, _, _, _, _, _, _, _, _, _, lk'⟩ := ini_plain (CX := CX0) (P := P) (w := w) (mg := mg) (base := base) (k := 0) [("passage", 1)] [.c "both ends of the passage ", .v 1, .c " are the same chamber"] (iniK_of (ps := ["self", "passage"]) lk E B su rfl rfl rfl rfl) S rfl E.ox (by decide) (by decide)
    (fun p hp => ⟨(show ∀ p ∈ ([("passage", 1)] : List (Str × Nat)), p.2 < 2 by decide +kernel) p hp, E.fl p.1 ((show ∀ p ∈ ([("passage", 1)] : List (Str × Nat)), p.1 ∈ flN "SameEnds" by decide +kernel) p hp)⟩) (by decide) (by decide) (by decide +kernel) (fun L => ⟨_, rfl⟩) (fun L => rfl) (fun L => rfl)
    (fun A outer s H E => pe_joined (.cons pe_str (.cons (pe_txR (pv 1)) (.cons pe_str .nil)))) (fun A outer s H E => (pss_cons (ps_ost (pv 0) (pv 1)) pss_nil))
  have e := lk'.symm.trans lk
  injection e with e
  injection e with _ _ e _
  injection e with e
  subst e
  exact fi_of g E B i hF (Binds.all fun us hl => match us, hl with | [_, _], _ => rfl)
theorem sc_is_name : FnScope ["text", "sign"] ["text"] (defScope s_is_name) := ⟨rfl, rfl, rfl, by decide +kernel, rfl, by decide +kernel, by decide +kernel⟩
theorem tm_is_name (Z : Bt mg) (G_DIGITS : Gs mg "DIGITS" "0123456789") (G_LETTERS : Gs mg "LETTERS" "abcdefghijklmnopqrstuvwxyz") (G_NAME_LENGTH : Gi mg "NAME_LENGTH" 12) (f : Addr) (cdv : Value) (A : Around) (outer : List Env) (s : Shared) (H : Hp) (E : XK) (hr : Room 0 (A.deeper (envOfC "is_name" (defScope s_is_name) s.heap.objs.size f cdv))) :
    ∃ t, PDSs (cxOf CX0 P w K mg base ["text", "sign"] "is_name" (defScope s_is_name) f cdv A outer s H E).nox W0 (defBody s_is_name) t T_is_name := by
  have nd := sc_is_name.nd
  have HP : PassesOwn (model P w) (A.deeper (envOfC "is_name" (defScope s_is_name) s.heap.objs.size f cdv)) (envOfC "is_name" (defScope s_is_name) s.heap.objs.size f cdv) (fun _ _ => False) := PassesOwn.never
  exact ⟨_, (b_cons (s_if (t_not (t_val (o_isa .str Z (q_v 0))))
      (b_one (s_ret (PDE.toO e_bl)))
      b_nil)
      (b_cons (s_if (PDW.toT (w_or (t_cmp op_ltD op2_ord (PDO.toQ (o_cb call_len cl_len Z.len_ PySem.boot_len (aq_cons (q_v 0) aq_nil))) (PDE.q e_int)) (w_or1 (t_cmp op_gtD op2_ord (PDO.toQ (o_cb call_len cl_len Z.len_ PySem.boot_len (aq_cons (q_v 0) aq_nil))) (PDE.q (e_gi G_NAME_LENGTH))))))
      (b_one (s_ret (PDE.toO e_bl)))
      b_nil)
      (b_cons (s_if (t_cmp op_niA op2_in (PDO.toQ (o_ix (q_v 0) (PDE.q e_int))) (PDE.q (e_gs G_LETTERS)))
      (b_one (s_ret (PDE.toO e_bl)))
      b_nil)
      (b_one (s_ret (o_cb (cr_all rfl) cl_all Z.all_ (by decide +kernel) (aq_cons (PDO.toQ (o_lc [("sign", 1)] nd (i_seq (e_v 0)) (by show blkC ["text", "sign"] (defScope s_is_name) _ _ = true; decide +kernel) (fun _ _ _ _ _ => (g_n 1 nd)) (fun _ _ _ _ _ => PDTs.as ts_nil (by first | rfl | (dsimp only [Cx.blk]; done) | (dsimp only [Cx.blk]; rfl))) (fun _ _ _ _ _ => PDE.as (PDO.toE (o_or (PDO.toE (o_cmp op_inA op2_in (q_v 1) (PDE.q (e_gs G_LETTERS)))) (o_one (o_cmp op_inA op2_in (q_v 1) (PDE.q (e_gs G_DIGITS)))))) (by first | rfl | (dsimp only [Cx.blk]; done) | (dsimp only [Cx.blk]; rfl))) (by decide))) aq_nil)))))))⟩
theorem ok_is_name (Z : Bt mg) (G_DIGITS : Gs mg "DIGITS" "0123456789") (G_LETTERS : Gs mg "LETTERS" "abcdefghijklmnopqrstuvwxyz") (G_NAME_LENGTH : Gi mg "NAME_LENGTH" 12) (D : Df K mg "is_name" s_is_name ["text"]) : Fp P w K mg base 1 "is_name" m_is_name :=
  okP D sc_is_name len_is_name mono_is_name fun f cdv A outer s H E hr => let ⟨t, h⟩ := tm_is_name Z G_DIGITS G_LETTERS G_NAME_LENGTH f cdv A outer s H E hr; ⟨t, T_is_name, h, rd_is_name⟩
theorem sc_check_name : FnScope ["text"] ["text"] (defScope s_check_name) := ⟨rfl, rfl, rfl, by decide +kernel, rfl, by decide +kernel, by decide +kernel⟩
theorem tm_check_name (Z : Bt mg) (I_BadName : Fi P w K mg base 1 "BadName" [("value", 1)] 1 [1]) (F_is_name : Fp P w K mg base 1 "is_name" m_is_name) (f : Addr) (cdv : Value) (A : Around) (outer : List Env) (s : Shared) (H : Hp) (E : XK) (hr : Room 2 (A.deeper (envOfC "check_name" (defScope s_check_name) s.heap.objs.size f cdv))) :
    ∃ t, PDSs (cxOf (L2N.CX P w) P w K mg base ["text"] "check_name" (defScope s_check_name) f cdv A outer s H E) (fun cls d _ H => E cls d H) (defBody s_check_name) t T_check_name := by
  have nd := sc_check_name.nd
  have tk : L2N.Takes (cxOf (L2N.CX P w) P w K mg base ["text"] "check_name" (defScope s_check_name) f cdv A outer s H E) (fun cls d _ H => E cls d H) := L2N.takes_of rfl rfl rfl rfl
  have HP : PassesOwn (model P w) (A.deeper (envOfC "check_name" (defScope s_check_name) s.heap.objs.size f cdv)) (envOfC "check_name" (defScope s_check_name) s.heap.objs.size f cdv) ((cxOf (L2N.CX P w) P w K mg base ["text"] "check_name" (defScope s_check_name) f cdv A outer s H E)).xe := passes_of rfl
  exact ⟨_, (b_cons (s_if (t_not (t_val (o_call F_is_name hr (by decide) (a_cons (e_v 0) a_nil))))
      (b_one (s_raise I_BadName hr (by decide) tk (a_cons (e_v 0) a_nil)))
      b_nil)
      (b_one (s_ret (o_v 0))))⟩
theorem ok_check_name (Z : Bt mg) (I_BadName : Fi P w K mg base 1 "BadName" [("value", 1)] 1 [1]) (F_is_name : Fp P w K mg base 1 "is_name" m_is_name) (D : Df K mg "check_name" s_check_name ["text"]) : Fx P w K mg base 3 "check_name" m_check_name :=
  okX D sc_check_name len_check_name mono_check_name fun f cdv A outer s H E hr => let ⟨t, h⟩ := tm_check_name Z I_BadName F_is_name f cdv A outer s H E hr; ⟨t, T_check_name, h, rd_check_name⟩
theorem sc_check_number : FnScope ["value", "low", "high"] ["value", "low", "high"] (defScope s_check_number) := ⟨rfl, rfl, rfl, by decide +kernel, rfl, by decide +kernel, by decide +kernel⟩
theorem tm_check_number (Z : Bt mg) (I_BadNumber : Fi P w K mg base 1 "BadNumber" [("value", 1), ("low", 2), ("high", 3)] 3 [1, 2, 3]) (f : Addr) (cdv : Value) (A : Around) (outer : List Env) (s : Shared) (H : Hp) (E : XK) (hr : Room 2 (A.deeper (envOfC "check_number" (defScope s_check_number) s.heap.objs.size f cdv))) :
    ∃ t, PDSs (cxOf (L2N.CX P w) P w K mg base ["value", "low", "high"] "check_number" (defScope s_check_number) f cdv A outer s H E) (fun cls d _ H => E cls d H) (defBody s_check_number) t T_check_number := by
  have nd := sc_check_number.nd
  have tk : L2N.Takes (cxOf (L2N.CX P w) P w K mg base ["value", "low", "high"] "check_number" (defScope s_check_number) f cdv A outer s H E) (fun cls d _ H => E cls d H) := L2N.takes_of rfl rfl rfl rfl
  have HP : PassesOwn (model P w) (A.deeper (envOfC "check_number" (defScope s_check_number) s.heap.objs.size f cdv)) (envOfC "check_number" (defScope s_check_number) s.heap.objs.size f cdv) ((cxOf (L2N.CX P w) P w K mg base ["value", "low", "high"] "check_number" (defScope s_check_number) f cdv A outer s H E)).xe := passes_of rfl
  exact ⟨_, (b_cons (s_if (PDW.toT (w_or (t_val (o_isa .bool Z (q_v 0))) (w_or (t_cmp op_ltD op2_ord (q_v 0) (q_v 1)) (w_or1 (t_cmp op_gtD op2_ord (q_v 0) (q_v 2))))))
      (b_one (s_raise I_BadNumber hr (by decide) tk (a_cons (e_v 0) (a_cons (e_v 1) (a_cons (e_v 2) a_nil)))))
      b_nil)
      (b_one (s_ret (o_v 0))))⟩
theorem ok_check_number (Z : Bt mg) (I_BadNumber : Fi P w K mg base 1 "BadNumber" [("value", 1), ("low", 2), ("high", 3)] 3 [1, 2, 3]) (D : Df K mg "check_number" s_check_number ["value", "low", "high"]) : Fx P w K mg base 3 "check_number" m_check_number :=
  okX D sc_check_number len_check_number mono_check_number fun f cdv A outer s H E hr => let ⟨t, h⟩ := tm_check_number Z I_BadNumber f cdv A outer s H E hr; ⟨t, T_check_number, h, rd_check_number⟩
theorem sc_check_names : FnScope ["names", "kind", "limit", "seen", "name"] ["names", "kind", "limit"] (defScope s_check_names) := ⟨rfl, rfl, rfl, by decide +kernel, rfl, by decide +kernel, by decide +kernel⟩
theorem tm_check_names (Z : Bt mg) (I_Twice : Fi P w K mg base 1 "Twice" [("kind", 1), ("name", 2)] 2 [1, 2]) (F_check_name : Fx P w K mg base 3 "check_name" m_check_name) (F_check_number : Fx P w K mg base 3 "check_number" m_check_number) (f : Addr) (cdv : Value) (A : Around) (outer : List Env) (s : Shared) (H : Hp) (E : XK) (hr : Room 3 (A.deeper (envOfC "check_names" (defScope s_check_names) s.heap.objs.size f cdv))) :
    ∃ t, PDSs (cxOf (L2N.CX P w) P w K mg base ["names", "kind", "limit", "seen", "name"] "check_names" (defScope s_check_names) f cdv A outer s H E) (fun cls d _ H => E cls d H) (defBody s_check_names) t T_check_names := by
  have nd := sc_check_names.nd
  have tk : L2N.Takes (cxOf (L2N.CX P w) P w K mg base ["names", "kind", "limit", "seen", "name"] "check_names" (defScope s_check_names) f cdv A outer s H E) (fun cls d _ H => E cls d H) := L2N.takes_of rfl rfl rfl rfl
  have HP : PassesOwn (model P w) (A.deeper (envOfC "check_names" (defScope s_check_names) s.heap.objs.size f cdv)) (envOfC "check_names" (defScope s_check_names) s.heap.objs.size f cdv) ((cxOf (L2N.CX P w) P w K mg base ["names", "kind", "limit", "seen", "name"] "check_names" (defScope s_check_names) f cdv A outer s H E)).xe := passes_of rfl
  exact ⟨_, (b_cons (s_dropX (x_call F_check_number hr (by decide) tk (a_cons (PDO.toE (o_cb call_len cl_len Z.len_ PySem.boot_len (aq_cons (q_v 0) aq_nil))) (a_cons e_int (a_cons (e_v 2) a_nil)))))
      (b_cons (s_set 3 nd o_dnew)
      (b_cons (s_for HP (i_seqV 0) (g_n 4 nd)
      (b_cons (s_dropX (x_call F_check_name hr (by decide) tk (a_cons (e_v 4) a_nil)))
      (b_cons (s_if (t_cmp (op_din (hu_of hr)) op2_din (q_v 4) (q_v 3))
      (b_one (s_raise I_Twice hr (by decide) tk (a_cons (e_v 1) (a_cons (e_v 4) a_nil))))
      b_nil)
      (b_one (s_dput 3 (hu_of hr) (e_v 4) e_bl)))))
      (b_one (s_ret (o_cb (call_sortedD rfl) cl_sortDD Z.sorted_ (by decide +kernel) (aq_cons (q_v 3) aq_nil)))))))⟩
theorem ok_check_names (Z : Bt mg) (I_Twice : Fi P w K mg base 1 "Twice" [("kind", 1), ("name", 2)] 2 [1, 2]) (F_check_name : Fx P w K mg base 3 "check_name" m_check_name) (F_check_number : Fx P w K mg base 3 "check_number" m_check_number) (D : Df K mg "check_names" s_check_names ["names", "kind", "limit"]) : Fq P w K mg base 4 "check_names" [] m_check_names :=
  okQ D sc_check_names len_check_names mono_check_names fun f cdv A outer s H E hr => let ⟨t, h⟩ := tm_check_names Z I_Twice F_check_name F_check_number f cdv A outer s H E hr; ⟨t, T_check_names, h, rd_check_names⟩
theorem sc_check_known : FnScope ["kind", "name", "known"] ["kind", "name", "known"] (defScope s_check_known) := ⟨rfl, rfl, rfl, by decide +kernel, rfl, by decide +kernel, by decide +kernel⟩
theorem tm_check_known (Z : Bt mg) (I_Unknown : Fi P w K mg base 1 "Unknown" [("kind", 1), ("name", 2)] 2 [1, 2]) (f : Addr) (cdv : Value) (A : Around) (outer : List Env) (s : Shared) (H : Hp) (E : XK) (hr : Room 2 (A.deeper (envOfC "check_known" (defScope s_check_known) s.heap.objs.size f cdv))) :
    ∃ t, PDSs (cxOf (L2N.CX P w) P w K mg base ["kind", "name", "known"] "check_known" (defScope s_check_known) f cdv A outer s H E) (fun cls d _ H => E cls d H) (defBody s_check_known) t T_check_known := by
  have nd := sc_check_known.nd
  have tk : L2N.Takes (cxOf (L2N.CX P w) P w K mg base ["kind", "name", "known"] "check_known" (defScope s_check_known) f cdv A outer s H E) (fun cls d _ H => E cls d H) := L2N.takes_of rfl rfl rfl rfl
  have HP : PassesOwn (model P w) (A.deeper (envOfC "check_known" (defScope s_check_known) s.heap.objs.size f cdv)) (envOfC "check_known" (defScope s_check_known) s.heap.objs.size f cdv) ((cxOf (L2N.CX P w) P w K mg base ["kind", "name", "known"] "check_known" (defScope s_check_known) f cdv A outer s H E)).xe := passes_of rfl
  exact ⟨_, (b_cons (s_if (t_cmp (op_niA.or (op_dni (hu_of hr))) op2_inX (q_v 1) (q_v 2))
      (b_one (s_raise I_Unknown hr (by decide) tk (a_cons (e_v 0) (a_cons (e_v 1) a_nil))))
      b_nil)
      (b_one (s_ret (o_v 1))))⟩
theorem ok_check_known (Z : Bt mg) (I_Unknown : Fi P w K mg base 1 "Unknown" [("kind", 1), ("name", 2)] 2 [1, 2]) (D : Df K mg "check_known" s_check_known ["kind", "name", "known"]) : Fq P w K mg base 3 "check_known" [] m_check_known :=
  okQ D sc_check_known len_check_known mono_check_known fun f cdv A outer s H E hr => let ⟨t, h⟩ := tm_check_known Z I_Unknown f cdv A outer s H E hr; ⟨t, T_check_known, h, rd_check_known⟩
theorem sc_check_new : FnScope ["kind", "name", "known"] ["kind", "name", "known"] (defScope s_check_new) := ⟨rfl, rfl, rfl, by decide +kernel, rfl, by decide +kernel, by decide +kernel⟩
theorem tm_check_new (Z : Bt mg) (I_Twice : Fi P w K mg base 1 "Twice" [("kind", 1), ("name", 2)] 2 [1, 2]) (F_check_name : Fx P w K mg base 3 "check_name" m_check_name) (f : Addr) (cdv : Value) (A : Around) (outer : List Env) (s : Shared) (H : Hp) (E : XK) (hr : Room 3 (A.deeper (envOfC "check_new" (defScope s_check_new) s.heap.objs.size f cdv))) :
    ∃ t, PDSs (cxOf (L2N.CX P w) P w K mg base ["kind", "name", "known"] "check_new" (defScope s_check_new) f cdv A outer s H E) (fun cls d _ H => E cls d H) (defBody s_check_new) t T_check_new := by
  have nd := sc_check_new.nd
  have tk : L2N.Takes (cxOf (L2N.CX P w) P w K mg base ["kind", "name", "known"] "check_new" (defScope s_check_new) f cdv A outer s H E) (fun cls d _ H => E cls d H) := L2N.takes_of rfl rfl rfl rfl
  have HP : PassesOwn (model P w) (A.deeper (envOfC "check_new" (defScope s_check_new) s.heap.objs.size f cdv)) (envOfC "check_new" (defScope s_check_new) s.heap.objs.size f cdv) ((cxOf (L2N.CX P w) P w K mg base ["kind", "name", "known"] "check_new" (defScope s_check_new) f cdv A outer s H E)).xe := passes_of rfl
  exact ⟨_, (b_cons (s_dropX (x_call F_check_name hr (by decide) tk (a_cons (e_v 1) a_nil)))
      (b_cons (s_if (t_cmp (op_inA.or (op_din (hu_of hr))) op2_inX (q_v 1) (q_v 2))
      (b_one (s_raise I_Twice hr (by decide) tk (a_cons (e_v 0) (a_cons (e_v 1) a_nil))))
      b_nil)
      (b_one (s_ret (o_v 1)))))⟩
theorem ok_check_new (Z : Bt mg) (I_Twice : Fi P w K mg base 1 "Twice" [("kind", 1), ("name", 2)] 2 [1, 2]) (F_check_name : Fx P w K mg base 3 "check_name" m_check_name) (D : Df K mg "check_new" s_check_new ["kind", "name", "known"]) : Fq P w K mg base 4 "check_new" [] m_check_new :=
  okQ D sc_check_new len_check_new mono_check_new fun f cdv A outer s H E hr => let ⟨t, h⟩ := tm_check_new Z I_Twice F_check_name f cdv A outer s H E hr; ⟨t, T_check_new, h, rd_check_new⟩
theorem sc_check_passage : FnScope ["entry", "chambers", "earlier", "passage", "chamber", "other", "width"] ["entry", "chambers", "earlier"] (defScope s_check_passage) := ⟨rfl, rfl, rfl, by decide +kernel, rfl, by decide +kernel, by decide +kernel⟩
theorem tm_check_passage (Z : Bt mg) (G_WIDTH : Gi mg "WIDTH" 6) (I_SameEnds : Fi P w K mg base 1 "SameEnds" [("passage", 1)] 1 [1]) (F_check_known : Fq P w K mg base 3 "check_known" [] m_check_known) (F_check_new : Fq P w K mg base 4 "check_new" [] m_check_new) (F_check_number : Fx P w K mg base 3 "check_number" m_check_number) (f : Addr) (cdv : Value) (A : Around) (outer : List Env) (s : Shared) (H : Hp) (E : XK) (hr : Room 4 (A.deeper (envOfC "check_passage" (defScope s_check_passage) s.heap.objs.size f cdv))) :
    ∃ t, PDSs (cxOf (L2N.CX P w) P w K mg base ["entry", "chambers", "earlier", "passage", "chamber", "other", "width"] "check_passage" (defScope s_check_passage) f cdv A outer s H E) (fun cls d _ H => E cls d H) (defBody s_check_passage) t T_check_passage := by
  have nd := sc_check_passage.nd
  have tk : L2N.Takes (cxOf (L2N.CX P w) P w K mg base ["entry", "chambers", "earlier", "passage", "chamber", "other", "width"] "check_passage" (defScope s_check_passage) f cdv A outer s H E) (fun cls d _ H => E cls d H) := L2N.takes_of rfl rfl rfl rfl
  have HP : PassesOwn (model P w) (A.deeper (envOfC "check_passage" (defScope s_check_passage) s.heap.objs.size f cdv)) (envOfC "check_passage" (defScope s_check_passage) s.heap.objs.size f cdv) ((cxOf (L2N.CX P w) P w K mg base ["entry", "chambers", "earlier", "passage", "chamber", "other", "width"] "check_passage" (defScope s_check_passage) f cdv A outer s H E)).xe := passes_of rfl
  exact ⟨_, (b_cons (s_asgG (e_v 0) (g_tup (gs_cons (g_n 3 nd) (gs_cons (g_n 4 nd) (gs_cons (g_n 5 nd) (gs_cons (g_n 6 nd) gs_nil))))))
      (b_cons (s_dropX (x_callq F_check_new hr (by decide) tk (PDQA.m (aq_cons (PDE.q e_str) (aq_cons (q_v 3) (aq_cons (q_v 2) aq_nil))))))
      (b_cons (s_dropX (x_callq F_check_known hr (by decide) tk (PDQA.m (aq_cons (PDE.q e_str) (aq_cons (q_v 4) (aq_cons (q_v 1) aq_nil))))))
      (b_cons (s_dropX (x_callq F_check_known hr (by decide) tk (PDQA.m (aq_cons (PDE.q e_str) (aq_cons (q_v 5) (aq_cons (q_v 1) aq_nil))))))
      (b_cons (s_if (t_cmp (op_eqA hr.units) op2_eq (q_v 4) (q_v 5))
      (b_one (s_raise I_SameEnds hr (by decide) tk (a_cons (e_v 3) a_nil)))
      b_nil)
      (b_cons (s_dropX (x_call F_check_number hr (by decide) tk (a_cons (e_v 6) (a_cons e_int (a_cons (e_gi G_WIDTH) a_nil)))))
      (b_one (s_ret (PDE.toO (e_tup (a_cons (e_v 3) (a_cons (PDO.toE (o_cb (call_min2A rfl) cl_two Z.min_ (by decide +kernel) (aq_cons (q_v 4) (aq_cons (q_v 5) aq_nil)))) (a_cons (PDO.toE (o_cb (call_max2A rfl) cl_two Z.max_ (by decide +kernel) (aq_cons (q_v 4) (aq_cons (q_v 5) aq_nil)))) (a_cons (e_v 6) a_nil))))))))))))))⟩
theorem ok_check_passage (Z : Bt mg) (G_WIDTH : Gi mg "WIDTH" 6) (I_SameEnds : Fi P w K mg base 1 "SameEnds" [("passage", 1)] 1 [1]) (F_check_known : Fq P w K mg base 3 "check_known" [] m_check_known) (F_check_new : Fq P w K mg base 4 "check_new" [] m_check_new) (F_check_number : Fx P w K mg base 3 "check_number" m_check_number) (D : Df K mg "check_passage" s_check_passage ["entry", "chambers", "earlier"]) : Fq P w K mg base 5 "check_passage" [true] m_check_passage :=
  okQ D sc_check_passage len_check_passage mono_check_passage fun f cdv A outer s H E hr => let ⟨t, h⟩ := tm_check_passage Z G_WIDTH I_SameEnds F_check_known F_check_new F_check_number f cdv A outer s H E hr; ⟨t, T_check_passage, h, rd_check_passage⟩
theorem sc_check_delver : FnScope ["entry", "chambers", "earlier", "delver", "home"] ["entry", "chambers", "earlier"] (defScope s_check_delver) := ⟨rfl, rfl, rfl, by decide +kernel, rfl, by decide +kernel, by decide +kernel⟩
theorem tm_check_delver (Z : Bt mg) (F_check_known : Fq P w K mg base 3 "check_known" [] m_check_known) (F_check_new : Fq P w K mg base 4 "check_new" [] m_check_new) (f : Addr) (cdv : Value) (A : Around) (outer : List Env) (s : Shared) (H : Hp) (E : XK) (hr : Room 4 (A.deeper (envOfC "check_delver" (defScope s_check_delver) s.heap.objs.size f cdv))) :
    ∃ t, PDSs (cxOf (L2N.CX P w) P w K mg base ["entry", "chambers", "earlier", "delver", "home"] "check_delver" (defScope s_check_delver) f cdv A outer s H E) (fun cls d _ H => E cls d H) (defBody s_check_delver) t T_check_delver := by
  have nd := sc_check_delver.nd
  have tk : L2N.Takes (cxOf (L2N.CX P w) P w K mg base ["entry", "chambers", "earlier", "delver", "home"] "check_delver" (defScope s_check_delver) f cdv A outer s H E) (fun cls d _ H => E cls d H) := L2N.takes_of rfl rfl rfl rfl
  have HP : PassesOwn (model P w) (A.deeper (envOfC "check_delver" (defScope s_check_delver) s.heap.objs.size f cdv)) (envOfC "check_delver" (defScope s_check_delver) s.heap.objs.size f cdv) ((cxOf (L2N.CX P w) P w K mg base ["entry", "chambers", "earlier", "delver", "home"] "check_delver" (defScope s_check_delver) f cdv A outer s H E)).xe := passes_of rfl
  exact ⟨_, (b_cons (s_asgG (e_v 0) (g_tup (gs_cons (g_n 3 nd) (gs_cons (g_n 4 nd) gs_nil))))
      (b_cons (s_dropX (x_callq F_check_new hr (by decide) tk (PDQA.m (aq_cons (PDE.q e_str) (aq_cons (q_v 3) (aq_cons (q_v 2) aq_nil))))))
      (b_cons (s_dropX (x_callq F_check_known hr (by decide) tk (PDQA.m (aq_cons (PDE.q e_str) (aq_cons (q_v 4) (aq_cons (q_v 1) aq_nil))))))
      (b_one (s_ret (PDE.toO (e_tup (a_cons (e_v 3) (a_cons (e_v 4) a_nil)))))))))⟩
theorem ok_check_delver (Z : Bt mg) (F_check_known : Fq P w K mg base 3 "check_known" [] m_check_known) (F_check_new : Fq P w K mg base 4 "check_new" [] m_check_new) (D : Df K mg "check_delver" s_check_delver ["entry", "chambers", "earlier"]) : Fq P w K mg base 5 "check_delver" [true] m_check_delver :=
  okQ D sc_check_delver len_check_delver mono_check_delver fun f cdv A outer s H E hr => let ⟨t, h⟩ := tm_check_delver Z F_check_known F_check_new f cdv A outer s H E hr; ⟨t, T_check_delver, h, rd_check_delver⟩
theorem sc_checked_passages : FnScope ["passages", "chambers", "found", "entry", "row", "passage"] ["passages", "chambers"] (defScope s_checked_passages) := ⟨rfl, rfl, rfl, by decide +kernel, rfl, by decide +kernel, by decide +kernel⟩
theorem tm_checked_passages (Z : Bt mg) (G_PASSAGES : Gi mg "PASSAGES" 14) (F_check_number : Fx P w K mg base 3 "check_number" m_check_number) (F_check_passage : Fq P w K mg base 5 "check_passage" [true] m_check_passage) (f : Addr) (cdv : Value) (A : Around) (outer : List Env) (s : Shared) (H : Hp) (E : XK) (hr : Room 5 (A.deeper (envOfC "checked_passages" (defScope s_checked_passages) s.heap.objs.size f cdv))) :
    ∃ t, PDSs (cxOf (L2N.CX P w) P w K mg base ["passages", "chambers", "found", "entry", "row", "passage"] "checked_passages" (defScope s_checked_passages) f cdv A outer s H E) (fun cls d _ H => E cls d H) (defBody s_checked_passages) t T_checked_passages := by
  have nd := sc_checked_passages.nd
  have tk : L2N.Takes (cxOf (L2N.CX P w) P w K mg base ["passages", "chambers", "found", "entry", "row", "passage"] "checked_passages" (defScope s_checked_passages) f cdv A outer s H E) (fun cls d _ H => E cls d H) := L2N.takes_of rfl rfl rfl rfl
  have HP : PassesOwn (model P w) (A.deeper (envOfC "checked_passages" (defScope s_checked_passages) s.heap.objs.size f cdv)) (envOfC "checked_passages" (defScope s_checked_passages) s.heap.objs.size f cdv) ((cxOf (L2N.CX P w) P w K mg base ["passages", "chambers", "found", "entry", "row", "passage"] "checked_passages" (defScope s_checked_passages) f cdv A outer s H E)).xe := passes_of rfl
  exact ⟨_, (b_cons (s_dropX (x_call F_check_number hr (by decide) tk (a_cons (PDO.toE (o_cb call_len cl_len Z.len_ PySem.boot_len (aq_cons (q_v 0) aq_nil))) (a_cons e_int (a_cons (e_gi G_PASSAGES) a_nil)))))
      (b_cons (s_set 2 nd o_dnew)
      (b_cons (s_for HP (i_seqV 0) (g_n 3 nd)
      (b_cons (s_setX 4 nd (x_callq F_check_passage hr (by decide) tk (am_e (e_v 3) (PDQA.m (aq_cons (q_v 1) (aq_cons (q_v 2) aq_nil))))))
      (b_one (s_dput 2 (hu_of hr) (PDO.toE (o_ix (q_v 4) (PDE.q e_int))) (e_v 4)))))
      (b_one (s_ret (o_frz [2] (o_lc [("passage", 5)] nd (i_seq (PDO.toE (o_cb (call_sortedD rfl) cl_sortDD Z.sorted_ (by decide +kernel) (aq_cons (q_v 2) aq_nil)))) (by show blkC ["passages", "chambers", "found", "entry", "row", "passage"] (defScope s_checked_passages) _ _ = true; decide +kernel) (fun _ _ _ _ _ => (g_n 5 nd)) (fun _ _ _ _ _ => PDTs.as ts_nil (by first | rfl | (dsimp only [Cx.blk]; done) | (dsimp only [Cx.blk]; rfl))) (fun _ _ _ _ _ => PDE.as (PDO.toE (o_dget (hu_of hr) (q_v 2) (q_v 5))) (by first | rfl | (dsimp only [Cx.blk]; done) | (dsimp only [Cx.blk]; rfl))) (by decide))))))))⟩
theorem ok_checked_passages (Z : Bt mg) (G_PASSAGES : Gi mg "PASSAGES" 14) (F_check_number : Fx P w K mg base 3 "check_number" m_check_number) (F_check_passage : Fq P w K mg base 5 "check_passage" [true] m_check_passage) (D : Df K mg "checked_passages" s_checked_passages ["passages", "chambers"]) : Fq P w K mg base 6 "checked_passages" [] m_checked_passages :=
  okQ D sc_checked_passages len_checked_passages mono_checked_passages fun f cdv A outer s H E hr => let ⟨t, h⟩ := tm_checked_passages Z G_PASSAGES F_check_number F_check_passage f cdv A outer s H E hr; ⟨t, T_checked_passages, h, rd_checked_passages⟩
theorem sc_checked_delvers : FnScope ["delvers", "chambers", "found", "entry", "row", "delver"] ["delvers", "chambers"] (defScope s_checked_delvers) := ⟨rfl, rfl, rfl, by decide +kernel, rfl, by decide +kernel, by decide +kernel⟩
theorem tm_checked_delvers (Z : Bt mg) (G_DELVERS : Gi mg "DELVERS" 6) (F_check_delver : Fq P w K mg base 5 "check_delver" [true] m_check_delver) (F_check_number : Fx P w K mg base 3 "check_number" m_check_number) (f : Addr) (cdv : Value) (A : Around) (outer : List Env) (s : Shared) (H : Hp) (E : XK) (hr : Room 5 (A.deeper (envOfC "checked_delvers" (defScope s_checked_delvers) s.heap.objs.size f cdv))) :
    ∃ t, PDSs (cxOf (L2N.CX P w) P w K mg base ["delvers", "chambers", "found", "entry", "row", "delver"] "checked_delvers" (defScope s_checked_delvers) f cdv A outer s H E) (fun cls d _ H => E cls d H) (defBody s_checked_delvers) t T_checked_delvers := by
  have nd := sc_checked_delvers.nd
  have tk : L2N.Takes (cxOf (L2N.CX P w) P w K mg base ["delvers", "chambers", "found", "entry", "row", "delver"] "checked_delvers" (defScope s_checked_delvers) f cdv A outer s H E) (fun cls d _ H => E cls d H) := L2N.takes_of rfl rfl rfl rfl
  have HP : PassesOwn (model P w) (A.deeper (envOfC "checked_delvers" (defScope s_checked_delvers) s.heap.objs.size f cdv)) (envOfC "checked_delvers" (defScope s_checked_delvers) s.heap.objs.size f cdv) ((cxOf (L2N.CX P w) P w K mg base ["delvers", "chambers", "found", "entry", "row", "delver"] "checked_delvers" (defScope s_checked_delvers) f cdv A outer s H E)).xe := passes_of rfl
  exact ⟨_, (b_cons (s_dropX (x_call F_check_number hr (by decide) tk (a_cons (PDO.toE (o_cb call_len cl_len Z.len_ PySem.boot_len (aq_cons (q_v 0) aq_nil))) (a_cons e_int (a_cons (e_gi G_DELVERS) a_nil)))))
      (b_cons (s_set 2 nd o_dnew)
      (b_cons (s_for HP (i_seqV 0) (g_n 3 nd)
      (b_cons (s_setX 4 nd (x_callq F_check_delver hr (by decide) tk (am_e (e_v 3) (PDQA.m (aq_cons (q_v 1) (aq_cons (q_v 2) aq_nil))))))
      (b_one (s_dput 2 (hu_of hr) (PDO.toE (o_ix (q_v 4) (PDE.q e_int))) (e_v 4)))))
      (b_one (s_ret (o_frz [2] (o_lc [("delver", 5)] nd (i_seq (PDO.toE (o_cb (call_sortedD rfl) cl_sortDD Z.sorted_ (by decide +kernel) (aq_cons (q_v 2) aq_nil)))) (by show blkC ["delvers", "chambers", "found", "entry", "row", "delver"] (defScope s_checked_delvers) _ _ = true; decide +kernel) (fun _ _ _ _ _ => (g_n 5 nd)) (fun _ _ _ _ _ => PDTs.as ts_nil (by first | rfl | (dsimp only [Cx.blk]; done) | (dsimp only [Cx.blk]; rfl))) (fun _ _ _ _ _ => PDE.as (PDO.toE (o_dget (hu_of hr) (q_v 2) (q_v 5))) (by first | rfl | (dsimp only [Cx.blk]; done) | (dsimp only [Cx.blk]; rfl))) (by decide))))))))⟩
theorem ok_checked_delvers (Z : Bt mg) (G_DELVERS : Gi mg "DELVERS" 6) (F_check_delver : Fq P w K mg base 5 "check_delver" [true] m_check_delver) (F_check_number : Fx P w K mg base 3 "check_number" m_check_number) (D : Df K mg "checked_delvers" s_checked_delvers ["delvers", "chambers"]) : Fq P w K mg base 6 "checked_delvers" [] m_checked_delvers :=
  okQ D sc_checked_delvers len_checked_delvers mono_checked_delvers fun f cdv A outer s H E hr => let ⟨t, h⟩ := tm_checked_delvers Z G_DELVERS F_check_delver F_check_number f cdv A outer s H E hr; ⟨t, T_checked_delvers, h, rd_checked_delvers⟩
theorem sc_passages_at : FnScope ["chamber", "rows", "passage", "low", "high", "spare"] ["chamber", "rows"] (defScope s_passages_at) := ⟨rfl, rfl, rfl, by decide +kernel, rfl, by decide +kernel, by decide +kernel⟩
theorem tm_passages_at (Z : Bt mg) (f : Addr) (cdv : Value) (A : Around) (outer : List Env) (s : Shared) (H : Hp) (E : XK) (hr : Room 0 (A.deeper (envOfC "passages_at" (defScope s_passages_at) s.heap.objs.size f cdv))) :
    ∃ t, PDSs (cxOf CX0 P w K mg base ["chamber", "rows", "passage", "low", "high", "spare"] "passages_at" (defScope s_passages_at) f cdv A outer s H E).nox W0 (defBody s_passages_at) t T_passages_at := by
  have nd := sc_passages_at.nd
  have HP : PassesOwn (model P w) (A.deeper (envOfC "passages_at" (defScope s_passages_at) s.heap.objs.size f cdv)) (envOfC "passages_at" (defScope s_passages_at) s.heap.objs.size f cdv) (fun _ _ => False) := PassesOwn.never
  exact ⟨_, (b_one (s_ret (o_frz [0] (o_lc [("passage", 2), ("low", 3), ("high", 4), ("spare", 5)] nd (i_seq (e_v 1)) (by show blkC ["chamber", "rows", "passage", "low", "high", "spare"] (defScope s_passages_at) _ _ = true; decide +kernel) (fun _ _ _ _ _ => (PDG.as (g_tup (gs_cons (g_n 2 nd) (gs_cons (g_n 3 nd) (gs_cons (g_n 4 nd) (gs_cons (g_n 5 nd) gs_nil))))) (by first | rfl | (dsimp only [Cx.blk]; done) | (dsimp only [Cx.blk]; rfl)))) (fun _ _ _ _ _ => PDTs.as (ts_one (t_cmp op_inA op2_in (q_v 0) (PDE.q (e_tup (a_cons (e_v 3) (a_cons (e_v 4) a_nil)))))) (by first | rfl | (dsimp only [Cx.blk]; done) | (dsimp only [Cx.blk]; rfl))) (fun _ _ _ _ _ => PDE.as (e_v 2) (by first | rfl | (dsimp only [Cx.blk]; done) | (dsimp only [Cx.blk]; rfl))) (by decide)))))⟩
theorem ok_passages_at (Z : Bt mg) (D : Df K mg "passages_at" s_passages_at ["chamber", "rows"]) : Fp P w K mg base 1 "passages_at" m_passages_at :=
  okP D sc_passages_at len_passages_at mono_passages_at fun f cdv A outer s H E hr => let ⟨t, h⟩ := tm_passages_at Z f cdv A outer s H E hr; ⟨t, T_passages_at, h, rd_passages_at⟩
theorem sc_Deep_init : FnScope ["self", "chambers", "passages", "delvers", "rope", "rows", "homes", "passage", "low", "high", "spare", "width", "delver", "home", "chamber"] ["self", "chambers", "passages", "delvers", "rope"] (defScope s_Deep_init) := ⟨rfl, rfl, rfl, by decide +kernel, rfl, by decide +kernel, by decide +kernel⟩
theorem tm_Deep_init (Z : Bt mg) (G_CHAMBERS : Gi mg "CHAMBERS" 10) (G_ROPE : Gi mg "ROPE" 12) (CI_Deep : Ci K "Deep" fl_Deep) (F_check_names : Fq P w K mg base 4 "check_names" [] m_check_names) (F_check_number : Fx P w K mg base 3 "check_number" m_check_number) (F_checked_delvers : Fq P w K mg base 6 "checked_delvers" [] m_checked_delvers) (F_checked_passages : Fq P w K mg base 6 "checked_passages" [] m_checked_passages) (F_passages_at : Fp P w K mg base 1 "passages_at" m_passages_at) (f : Addr) (cdv : Value) (A : Around) (outer : List Env) (s : Shared) (H : Hp) (E : XK) (hr : Room 6 (A.deeper (envOfC "Deep.__init__" (defScope s_Deep_init) s.heap.objs.size f cdv))) :
    ∃ t, PDSs (cxOf (L2N.CX P w) P w K mg base ["self", "chambers", "passages", "delvers", "rope", "rows", "homes", "passage", "low", "high", "spare", "width", "delver", "home", "chamber"] "Deep.__init__" (defScope s_Deep_init) f cdv A outer s H E) (fun cls d _ H => E cls d H) (defBody s_Deep_init) t T_Deep_init := by
  have nd := sc_Deep_init.nd
  have tk : L2N.Takes (cxOf (L2N.CX P w) P w K mg base ["self", "chambers", "passages", "delvers", "rope", "rows", "homes", "passage", "low", "high", "spare", "width", "delver", "home", "chamber"] "Deep.__init__" (defScope s_Deep_init) f cdv A outer s H E) (fun cls d _ H => E cls d H) := L2N.takes_of rfl rfl rfl rfl
  have HP : PassesOwn (model P w) (A.deeper (envOfC "Deep.__init__" (defScope s_Deep_init) s.heap.objs.size f cdv)) (envOfC "Deep.__init__" (defScope s_Deep_init) s.heap.objs.size f cdv) ((cxOf (L2N.CX P w) P w K mg base ["self", "chambers", "passages", "delvers", "rope", "rows", "homes", "passage", "low", "high", "spare", "width", "delver", "home", "chamber"] "Deep.__init__" (defScope s_Deep_init) f cdv A outer s H E)).xe := passes_of rfl
  exact ⟨_, (b_cons (s_fldNX 0 0 CI_Deep (x_callq F_check_names hr (by decide) tk (PDQA.m (aq_cons (q_v 1) (aq_cons (PDE.q e_str) (aq_cons (PDE.q (e_gi G_CHAMBERS)) aq_nil))))))
      (b_cons (s_setX 5 nd (x_callq F_checked_passages hr (by decide) tk (PDQA.m (aq_cons (q_v 2) (aq_cons (PDE.q (e_fldP 0 0 CI_Deep)) aq_nil)))))
      (b_cons (s_setX 6 nd (x_callq F_checked_delvers hr (by decide) tk (PDQA.m (aq_cons (q_v 3) (aq_cons (PDE.q (e_fldP 0 0 CI_Deep)) aq_nil)))))
      (b_cons (s_fldNX 0 1 CI_Deep (x_call F_check_number hr (by decide) tk (a_cons (e_v 4) (a_cons e_int (a_cons (e_gi G_ROPE) a_nil)))))
      (b_cons (s_fldN 0 2 CI_Deep (PDO.toE (o_dc [("passage", 7), ("low", 8), ("high", 9), ("spare", 10)] nd (i_seq (e_v 5)) (by show blkC ["self", "chambers", "passages", "delvers", "rope", "rows", "homes", "passage", "low", "high", "spare", "width", "delver", "home", "chamber"] (defScope s_Deep_init) _ _ = true; decide +kernel) (fun _ _ _ _ _ => (PDG.as (g_tup (gs_cons (g_n 7 nd) (gs_cons (g_n 8 nd) (gs_cons (g_n 9 nd) (gs_cons (g_n 10 nd) gs_nil))))) (by first | rfl | (dsimp only [Cx.blk]; done) | (dsimp only [Cx.blk]; rfl)))) (fun _ _ _ _ _ => PDTs.as ts_nil (by first | rfl | (dsimp only [Cx.blk]; done) | (dsimp only [Cx.blk]; rfl))) (fun _ _ _ _ _ => PDE.as (e_v 7) (by first | rfl | (dsimp only [Cx.blk]; done) | (dsimp only [Cx.blk]; rfl))) (fun _ _ _ _ _ => PDE.as (e_tup (a_cons (e_v 8) (a_cons (e_v 9) a_nil))) (by first | rfl | (dsimp only [Cx.blk]; done) | (dsimp only [Cx.blk]; rfl))) (by decide))))
      (b_cons (s_fldN 0 3 CI_Deep (PDO.toE (o_dc [("passage", 7), ("low", 8), ("high", 9), ("width", 11)] nd (i_seq (e_v 5)) (by show blkC ["self", "chambers", "passages", "delvers", "rope", "rows", "homes", "passage", "low", "high", "spare", "width", "delver", "home", "chamber"] (defScope s_Deep_init) _ _ = true; decide +kernel) (fun _ _ _ _ _ => (PDG.as (g_tup (gs_cons (g_n 7 nd) (gs_cons (g_n 8 nd) (gs_cons (g_n 9 nd) (gs_cons (g_n 11 nd) gs_nil))))) (by first | rfl | (dsimp only [Cx.blk]; done) | (dsimp only [Cx.blk]; rfl)))) (fun _ _ _ _ _ => PDTs.as ts_nil (by first | rfl | (dsimp only [Cx.blk]; done) | (dsimp only [Cx.blk]; rfl))) (fun _ _ _ _ _ => PDE.as (e_v 7) (by first | rfl | (dsimp only [Cx.blk]; done) | (dsimp only [Cx.blk]; rfl))) (fun _ _ _ _ _ => PDE.as (e_v 11) (by first | rfl | (dsimp only [Cx.blk]; done) | (dsimp only [Cx.blk]; rfl))) (by decide))))
      (b_cons (s_fldN 0 4 CI_Deep (PDO.toE (o_dc [("delver", 12), ("home", 13)] nd (i_seq (e_v 6)) (by show blkC ["self", "chambers", "passages", "delvers", "rope", "rows", "homes", "passage", "low", "high", "spare", "width", "delver", "home", "chamber"] (defScope s_Deep_init) _ _ = true; decide +kernel) (fun _ _ _ _ _ => (PDG.as (g_tup (gs_cons (g_n 12 nd) (gs_cons (g_n 13 nd) gs_nil))) (by first | rfl | (dsimp only [Cx.blk]; done) | (dsimp only [Cx.blk]; rfl)))) (fun _ _ _ _ _ => PDTs.as ts_nil (by first | rfl | (dsimp only [Cx.blk]; done) | (dsimp only [Cx.blk]; rfl))) (fun _ _ _ _ _ => PDE.as (e_v 12) (by first | rfl | (dsimp only [Cx.blk]; done) | (dsimp only [Cx.blk]; rfl))) (fun _ _ _ _ _ => PDE.as (e_v 13) (by first | rfl | (dsimp only [Cx.blk]; done) | (dsimp only [Cx.blk]; rfl))) (by decide))))
      (b_one (s_fldN 0 5 CI_Deep (PDO.toE (o_frz [5] (o_dc [("chamber", 14)] nd (i_seq (e_fldP 0 0 CI_Deep)) (by show blkC ["self", "chambers", "passages", "delvers", "rope", "rows", "homes", "passage", "low", "high", "spare", "width", "delver", "home", "chamber"] (defScope s_Deep_init) _ _ = true; decide +kernel) (fun _ _ _ _ _ => (g_n 14 nd)) (fun _ _ _ _ _ => PDTs.as ts_nil (by first | rfl | (dsimp only [Cx.blk]; done) | (dsimp only [Cx.blk]; rfl))) (fun _ _ _ _ _ => PDE.as (e_v 14) (by first | rfl | (dsimp only [Cx.blk]; done) | (dsimp only [Cx.blk]; rfl))) (fun _ _ _ _ _ => PDE.as (PDO.toE (o_call F_passages_at hr (by decide) (a_cons (e_v 14) (a_cons (e_v 5) a_nil)))) (by first | rfl | (dsimp only [Cx.blk]; done) | (dsimp only [Cx.blk]; rfl))) (by decide)))))))))))))⟩
theorem ok_Deep_init (Z : Bt mg) (G_CHAMBERS : Gi mg "CHAMBERS" 10) (G_ROPE : Gi mg "ROPE" 12) (CI_Deep : Ci K "Deep" fl_Deep) (F_check_names : Fq P w K mg base 4 "check_names" [] m_check_names) (F_check_number : Fx P w K mg base 3 "check_number" m_check_number) (F_checked_delvers : Fq P w K mg base 6 "checked_delvers" [] m_checked_delvers) (F_checked_passages : Fq P w K mg base 6 "checked_passages" [] m_checked_passages) (F_passages_at : Fp P w K mg base 1 "passages_at" m_passages_at) {f : Addr} {fd : FuncData} (D : Fun K "__init__" "Deep.__init__" s_Deep_init f fd) : FnOk P w K mg base (L2N.CX P w) 7 f fd ["self", "chambers", "passages", "delvers", "rope"] (spN K mg "Deep" [] m_Deep_init) :=
  okN1 D sc_Deep_init len_Deep_init fun f cdv A outer s H E hr => let ⟨t, h⟩ := tm_Deep_init Z G_CHAMBERS G_ROPE CI_Deep F_check_names F_check_number F_checked_delvers F_checked_passages F_passages_at f cdv A outer s H E hr; ⟨t, T_Deep_init, h, rd_Deep_init⟩
theorem sc_Deep_rope : FnScope ["self"] ["self"] (defScope s_Deep_rope) := ⟨rfl, rfl, rfl, by decide +kernel, rfl, by decide +kernel, by decide +kernel⟩
theorem tm_Deep_rope (Z : Bt mg) (CI_Deep : Ci K "Deep" fl_Deep) (f : Addr) (cdv : Value) (A : Around) (outer : List Env) (s : Shared) (H : Hp) (E : XK) (hr : Room 0 (A.deeper (envOfC "Deep.rope" (defScope s_Deep_rope) s.heap.objs.size f cdv))) :
    ∃ t, PDSs (cxOf (L2N.CX P w) P w K mg base ["self"] "Deep.rope" (defScope s_Deep_rope) f cdv A outer s H E) (fun cls d _ H => E cls d H) (defBody s_Deep_rope) t T_Deep_rope := by
  have nd := sc_Deep_rope.nd
  have tk : L2N.Takes (cxOf (L2N.CX P w) P w K mg base ["self"] "Deep.rope" (defScope s_Deep_rope) f cdv A outer s H E) (fun cls d _ H => E cls d H) := L2N.takes_of rfl rfl rfl rfl
  have HP : PassesOwn (model P w) (A.deeper (envOfC "Deep.rope" (defScope s_Deep_rope) s.heap.objs.size f cdv)) (envOfC "Deep.rope" (defScope s_Deep_rope) s.heap.objs.size f cdv) ((cxOf (L2N.CX P w) P w K mg base ["self"] "Deep.rope" (defScope s_Deep_rope) f cdv A outer s H E)).xe := passes_of rfl
  exact ⟨_, (b_one (s_ret (PDE.toO (e_fld 1 CI_Deep (q_v 0)))))⟩
theorem ok_Deep_rope (Z : Bt mg) (CI_Deep : Ci K "Deep" fl_Deep) (D : Dr K "Deep" "rope" "Deep.rope" s_Deep_rope ["self"]) : Fr P w K mg base 1 "Deep" "rope" m_Deep_rope :=
  okR D sc_Deep_rope len_Deep_rope mono_Deep_rope fun f cdv A outer s H E hr => let ⟨t, h⟩ := tm_Deep_rope Z CI_Deep f cdv A outer s H E hr; ⟨t, T_Deep_rope, h, rd_Deep_rope⟩
theorem sc_Deep_chambers : FnScope ["self"] ["self"] (defScope s_Deep_chambers) := ⟨rfl, rfl, rfl, by decide +kernel, rfl, by decide +kernel, by decide +kernel⟩
theorem tm_Deep_chambers (Z : Bt mg) (CI_Deep : Ci K "Deep" fl_Deep) (f : Addr) (cdv : Value) (A : Around) (outer : List Env) (s : Shared) (H : Hp) (E : XK) (hr : Room 0 (A.deeper (envOfC "Deep.chambers" (defScope s_Deep_chambers) s.heap.objs.size f cdv))) :
    ∃ t, PDSs (cxOf (L2N.CX P w) P w K mg base ["self"] "Deep.chambers" (defScope s_Deep_chambers) f cdv A outer s H E) (fun cls d _ H => E cls d H) (defBody s_Deep_chambers) t T_Deep_chambers := by
  have nd := sc_Deep_chambers.nd
  have tk : L2N.Takes (cxOf (L2N.CX P w) P w K mg base ["self"] "Deep.chambers" (defScope s_Deep_chambers) f cdv A outer s H E) (fun cls d _ H => E cls d H) := L2N.takes_of rfl rfl rfl rfl
  have HP : PassesOwn (model P w) (A.deeper (envOfC "Deep.chambers" (defScope s_Deep_chambers) s.heap.objs.size f cdv)) (envOfC "Deep.chambers" (defScope s_Deep_chambers) s.heap.objs.size f cdv) ((cxOf (L2N.CX P w) P w K mg base ["self"] "Deep.chambers" (defScope s_Deep_chambers) f cdv A outer s H E)).xe := passes_of rfl
  exact ⟨_, (b_one (s_ret (o_ct (call_listA rfl) cl_listA Z.list_ (by decide +kernel) (aq_cons (PDE.q (e_fld 0 CI_Deep (q_v 0))) aq_nil))))⟩
theorem ok_Deep_chambers (Z : Bt mg) (CI_Deep : Ci K "Deep" fl_Deep) (D : Dm K "Deep" "chambers" "Deep.chambers" s_Deep_chambers ["self"]) : Fm P w K mg base 1 "Deep" "chambers" fl_Deep [] m_Deep_chambers :=
  okM D sc_Deep_chambers (by decide) len_Deep_chambers mono_Deep_chambers fun f cdv A outer s H E hr => let ⟨t, h⟩ := tm_Deep_chambers Z CI_Deep f cdv A outer s H E hr; ⟨t, T_Deep_chambers, h, rd_Deep_chambers⟩
theorem sc_Deep_delvers : FnScope ["self"] ["self"] (defScope s_Deep_delvers) := ⟨rfl, rfl, rfl, by decide +kernel, rfl, by decide +kernel, by decide +kernel⟩
theorem tm_Deep_delvers (Z : Bt mg) (CI_Deep : Ci K "Deep" fl_Deep) (f : Addr) (cdv : Value) (A : Around) (outer : List Env) (s : Shared) (H : Hp) (E : XK) (hr : Room 0 (A.deeper (envOfC "Deep.delvers" (defScope s_Deep_delvers) s.heap.objs.size f cdv))) :
    ∃ t, PDSs (cxOf (L2N.CX P w) P w K mg base ["self"] "Deep.delvers" (defScope s_Deep_delvers) f cdv A outer s H E) (fun cls d _ H => E cls d H) (defBody s_Deep_delvers) t T_Deep_delvers := by
  have nd := sc_Deep_delvers.nd
  have tk : L2N.Takes (cxOf (L2N.CX P w) P w K mg base ["self"] "Deep.delvers" (defScope s_Deep_delvers) f cdv A outer s H E) (fun cls d _ H => E cls d H) := L2N.takes_of rfl rfl rfl rfl
  have HP : PassesOwn (model P w) (A.deeper (envOfC "Deep.delvers" (defScope s_Deep_delvers) s.heap.objs.size f cdv)) (envOfC "Deep.delvers" (defScope s_Deep_delvers) s.heap.objs.size f cdv) ((cxOf (L2N.CX P w) P w K mg base ["self"] "Deep.delvers" (defScope s_Deep_delvers) f cdv A outer s H E)).xe := passes_of rfl
  exact ⟨_, (b_one (s_ret (o_ct (call_listA rfl) cl_listA Z.list_ (by decide +kernel) (aq_cons (PDE.q (e_fld 4 CI_Deep (q_v 0))) aq_nil))))⟩
theorem ok_Deep_delvers (Z : Bt mg) (CI_Deep : Ci K "Deep" fl_Deep) (D : Dm K "Deep" "delvers" "Deep.delvers" s_Deep_delvers ["self"]) : Fm P w K mg base 1 "Deep" "delvers" fl_Deep [] m_Deep_delvers :=
  okM D sc_Deep_delvers (by decide) len_Deep_delvers mono_Deep_delvers fun f cdv A outer s H E hr => let ⟨t, h⟩ := tm_Deep_delvers Z CI_Deep f cdv A outer s H E hr; ⟨t, T_Deep_delvers, h, rd_Deep_delvers⟩
theorem sc_Deep_home : FnScope ["self", "delver"] ["self", "delver"] (defScope s_Deep_home) := ⟨rfl, rfl, rfl, by decide +kernel, rfl, by decide +kernel, by decide +kernel⟩
theorem tm_Deep_home (Z : Bt mg) (CI_Deep : Ci K "Deep" fl_Deep) (F_check_known : Fq P w K mg base 3 "check_known" [] m_check_known) (f : Addr) (cdv : Value) (A : Around) (outer : List Env) (s : Shared) (H : Hp) (E : XK) (hr : Room 3 (A.deeper (envOfC "Deep.home" (defScope s_Deep_home) s.heap.objs.size f cdv))) :
    ∃ t, PDSs (cxOf (L2N.CX P w) P w K mg base ["self", "delver"] "Deep.home" (defScope s_Deep_home) f cdv A outer s H E) (fun cls d _ H => E cls d H) (defBody s_Deep_home) t T_Deep_home := by
  have nd := sc_Deep_home.nd
  have tk : L2N.Takes (cxOf (L2N.CX P w) P w K mg base ["self", "delver"] "Deep.home" (defScope s_Deep_home) f cdv A outer s H E) (fun cls d _ H => E cls d H) := L2N.takes_of rfl rfl rfl rfl
  have HP : PassesOwn (model P w) (A.deeper (envOfC "Deep.home" (defScope s_Deep_home) s.heap.objs.size f cdv)) (envOfC "Deep.home" (defScope s_Deep_home) s.heap.objs.size f cdv) ((cxOf (L2N.CX P w) P w K mg base ["self", "delver"] "Deep.home" (defScope s_Deep_home) f cdv A outer s H E)).xe := passes_of rfl
  exact ⟨_, (b_cons (s_dropX (x_callq F_check_known hr (by decide) tk (PDQA.m (aq_cons (PDE.q e_str) (aq_cons (q_v 1) (aq_cons (PDE.q (e_fld 4 CI_Deep (q_v 0))) aq_nil))))))
      (b_one (s_ret (o_dget (hu_of hr) (PDE.q (e_fld 4 CI_Deep (q_v 0))) (q_v 1)))))⟩
theorem ok_Deep_home (Z : Bt mg) (CI_Deep : Ci K "Deep" fl_Deep) (F_check_known : Fq P w K mg base 3 "check_known" [] m_check_known) (D : Dm K "Deep" "home" "Deep.home" s_Deep_home ["self", "delver"]) : Fm P w K mg base 4 "Deep" "home" fl_Deep [] m_Deep_home :=
  okM D sc_Deep_home (by decide) len_Deep_home mono_Deep_home fun f cdv A outer s H E hr => let ⟨t, h⟩ := tm_Deep_home Z CI_Deep F_check_known f cdv A outer s H E hr; ⟨t, T_Deep_home, h, rd_Deep_home⟩
theorem sc_Deep_entries : FnScope ["self", "passage", "low", "high"] ["self"] (defScope s_Deep_entries) := ⟨rfl, rfl, rfl, by decide +kernel, rfl, by decide +kernel, by decide +kernel⟩
theorem tm_Deep_entries (Z : Bt mg) (CI_Deep : Ci K "Deep" fl_Deep) (f : Addr) (cdv : Value) (A : Around) (outer : List Env) (s : Shared) (H : Hp) (E : XK) (hr : Room 0 (A.deeper (envOfC "Deep.entries" (defScope s_Deep_entries) s.heap.objs.size f cdv))) :
    ∃ t, PDSs (cxOf (L2N.CX P w) P w K mg base ["self", "passage", "low", "high"] "Deep.entries" (defScope s_Deep_entries) f cdv A outer s H E) (fun cls d _ H => E cls d H) (defBody s_Deep_entries) t T_Deep_entries := by
  have nd := sc_Deep_entries.nd
  have tk : L2N.Takes (cxOf (L2N.CX P w) P w K mg base ["self", "passage", "low", "high"] "Deep.entries" (defScope s_Deep_entries) f cdv A outer s H E) (fun cls d _ H => E cls d H) := L2N.takes_of rfl rfl rfl rfl
  have HP : PassesOwn (model P w) (A.deeper (envOfC "Deep.entries" (defScope s_Deep_entries) s.heap.objs.size f cdv)) (envOfC "Deep.entries" (defScope s_Deep_entries) s.heap.objs.size f cdv) ((cxOf (L2N.CX P w) P w K mg base ["self", "passage", "low", "high"] "Deep.entries" (defScope s_Deep_entries) f cdv A outer s H E)).xe := passes_of rfl
  exact ⟨_, (b_one (s_ret (o_lcD [("passage", 1), ("low", 2), ("high", 3)] nd (w_items (pa_fl 0 2 CI_Deep)) (by show blkC ["self", "passage", "low", "high"] (defScope s_Deep_entries) _ _ = true; decide +kernel) (fun _ _ _ _ _ => (PDG.as (g_tup (gs_cons (g_n 1 nd) (gs_cons (g_tup (gs_cons (g_n 2 nd) (gs_cons (g_n 3 nd) gs_nil))) gs_nil))) (by first | rfl | (dsimp only [Cx.blk]; done) | (dsimp only [Cx.blk]; rfl)))) (fun _ _ _ _ _ => PDTs.as ts_nil (by first | rfl | (dsimp only [Cx.blk]; done) | (dsimp only [Cx.blk]; rfl))) (fun _ _ _ _ _ => PDE.as (e_tup (a_cons (e_v 1) (a_cons (e_v 2) (a_cons (e_v 3) (a_cons (PDO.toE (o_dget (hu_of hr) (PDE.q (e_fld 3 CI_Deep (q_v 0))) (q_v 1))) a_nil))))) (by first | rfl | (dsimp only [Cx.blk]; done) | (dsimp only [Cx.blk]; rfl))) (by decide))))⟩
theorem ok_Deep_entries (Z : Bt mg) (CI_Deep : Ci K "Deep" fl_Deep) (D : Dm K "Deep" "entries" "Deep.entries" s_Deep_entries ["self"]) : Fm P w K mg base 1 "Deep" "entries" fl_Deep [] m_Deep_entries :=
  okM D sc_Deep_entries (by decide) len_Deep_entries mono_Deep_entries fun f cdv A outer s H E hr => let ⟨t, h⟩ := tm_Deep_entries Z CI_Deep f cdv A outer s H E hr; ⟨t, T_Deep_entries, h, rd_Deep_entries⟩
theorem sc_deep_text : FnScope ["deep", "lines", "chamber", "passage", "low", "high", "width", "delver"] ["deep"] (defScope s_deep_text) := ⟨rfl, rfl, rfl, by decide +kernel, rfl, by decide +kernel, by decide +kernel⟩
theorem tm_deep_text (Z : Bt mg) (F_Deep_chambers : Fm P w K mg base 1 "Deep" "chambers" fl_Deep [] m_Deep_chambers) (F_Deep_delvers : Fm P w K mg base 1 "Deep" "delvers" fl_Deep [] m_Deep_delvers) (F_Deep_entries : Fm P w K mg base 1 "Deep" "entries" fl_Deep [] m_Deep_entries) (F_Deep_home : Fm P w K mg base 4 "Deep" "home" fl_Deep [] m_Deep_home) (F_Deep_rope : Fr P w K mg base 1 "Deep" "rope" m_Deep_rope) (f : Addr) (cdv : Value) (A : Around) (outer : List Env) (s : Shared) (H : Hp) (E : XK) (hr : Room 4 (A.deeper (envOfC "deep_text" (defScope s_deep_text) s.heap.objs.size f cdv))) :
    ∃ t, PDSs (cxOf CX0 P w K mg base ["deep", "lines", "chamber", "passage", "low", "high", "width", "delver"] "deep_text" (defScope s_deep_text) f cdv A outer s H E).nox W0 (defBody s_deep_text) t T_deep_text := by
  have nd := sc_deep_text.nd
  have HP : PassesOwn (model P w) (A.deeper (envOfC "deep_text" (defScope s_deep_text) s.heap.objs.size f cdv)) (envOfC "deep_text" (defScope s_deep_text) s.heap.objs.size f cdv) (fun _ _ => False) := PassesOwn.never
  exact ⟨_, (b_cons (s_set 1 nd (o_lst (a_cons (e_fs (j_cons e_str (j_cons (e_fmt (PDO.toE (o_prop F_Deep_rope hr (by decide) (q_v 0)))) j_nil))) a_nil)))
      (b_cons (s_for HP (i_seq (PDO.toE (o_meth0 F_Deep_chambers hr (by decide) (q_v 0)))) (g_n 2 nd)
      (b_one (s_app 1 (e_fs (j_cons e_str (j_cons (e_fmt (e_v 2)) j_nil))))))
      (b_cons (s_for HP (i_seq (PDO.toE (o_meth0 F_Deep_entries hr (by decide) (q_v 0)))) (g_tup (gs_cons (g_n 3 nd) (gs_cons (g_n 4 nd) (gs_cons (g_n 5 nd) (gs_cons (g_n 6 nd) gs_nil)))))
      (b_one (s_app 1 (e_fs (j_cons e_str (j_cons (e_fmt (e_v 3)) (j_cons e_str (j_cons (e_fmt (e_v 4)) (j_cons e_str (j_cons (e_fmt (e_v 5)) (j_cons e_str (j_cons (e_fmt (e_v 6)) j_nil))))))))))))
      (b_cons (s_for HP (i_seq (PDO.toE (o_meth0 F_Deep_delvers hr (by decide) (q_v 0)))) (g_n 7 nd)
      (b_one (s_app 1 (e_fs (j_cons e_str (j_cons (e_fmt (e_v 7)) (j_cons e_str (j_cons (e_fmt (PDO.toE (o_meth F_Deep_home hr (by decide) (q_v 0) (PDQA.m (aq_cons (q_v 7) aq_nil))))) j_nil))))))))
      (b_one (s_ret (o_join e_str (q_v 1))))))))⟩
theorem ok_deep_text (Z : Bt mg) (F_Deep_chambers : Fm P w K mg base 1 "Deep" "chambers" fl_Deep [] m_Deep_chambers) (F_Deep_delvers : Fm P w K mg base 1 "Deep" "delvers" fl_Deep [] m_Deep_delvers) (F_Deep_entries : Fm P w K mg base 1 "Deep" "entries" fl_Deep [] m_Deep_entries) (F_Deep_home : Fm P w K mg base 4 "Deep" "home" fl_Deep [] m_Deep_home) (F_Deep_rope : Fr P w K mg base 1 "Deep" "rope" m_Deep_rope) (D : Df K mg "deep_text" s_deep_text ["deep"]) : Fp P w K mg base 5 "deep_text" m_deep_text :=
  okP D sc_deep_text len_deep_text mono_deep_text fun f cdv A outer s H E hr => let ⟨t, h⟩ := tm_deep_text Z F_Deep_chambers F_Deep_delvers F_Deep_entries F_Deep_home F_Deep_rope f cdv A outer s H E hr; ⟨t, T_deep_text, h, rd_deep_text⟩
theorem sc_law_mix : FnScope ["_law_number", "_law_turn", "_law_once", "_law_twice", "_law_third"] ["_law_number", "_law_turn"] (defScope s_law_mix) := ⟨rfl, rfl, rfl, by decide +kernel, rfl, by decide +kernel, by decide +kernel⟩
theorem tm_law_mix (Z : Bt mg) (f : Addr) (cdv : Value) (A : Around) (outer : List Env) (s : Shared) (H : Hp) (E : XK) (hr : Room 0 (A.deeper (envOfC "_law_mix" (defScope s_law_mix) s.heap.objs.size f cdv))) :
    ∃ t, PDSs (cxOf CX0 P w K mg base ["_law_number", "_law_turn", "_law_once", "_law_twice", "_law_third"] "_law_mix" (defScope s_law_mix) f cdv A outer s H E).nox W0 (defBody s_law_mix) t T_law_mix := by
  have nd := sc_law_mix.nd
  have HP : PassesOwn (model P w) (A.deeper (envOfC "_law_mix" (defScope s_law_mix) s.heap.objs.size f cdv)) (envOfC "_law_mix" (defScope s_law_mix) s.heap.objs.size f cdv) (fun _ _ => False) := PassesOwn.never
  exact ⟨_, (b_cons (s_set 2 nd (o_mod (PDO.toQ (o_ct call_int1 cl_int Z.int_ (by decide +kernel) (aq_cons (PDO.toQ (o_add (PDO.toQ (o_add (PDO.toQ (o_mul (q_v 0) (PDE.q e_int))) (PDO.toQ (o_mul (q_v 1) (PDE.q e_int))))) (PDE.q e_int))) aq_nil))) (PDE.q e_int)))
      (b_cons (s_set 3 nd (o_mod (PDO.toQ (o_ct call_int1 cl_int Z.int_ (by decide +kernel) (aq_cons (PDO.toQ (o_add (PDO.toQ (o_add (PDO.toQ (o_mul (q_v 2) (q_v 2))) (PDO.toQ (o_mul (q_v 1) (PDE.q e_int))))) (PDE.q e_int))) aq_nil))) (PDE.q e_int)))
      (b_cons (s_set 4 nd (o_mod (PDO.toQ (o_ct call_int1 cl_int Z.int_ (by decide +kernel) (aq_cons (PDO.toQ (o_add (PDO.toQ (o_add (PDO.toQ (o_mul (q_v 3) (PDE.q e_int))) (PDO.toQ (o_fdiv (q_v 2) (PDE.q e_int))))) (q_v 1))) aq_nil))) (PDE.q e_int)))
      (b_one (s_ret (o_mod (PDO.toQ (o_ct call_int1 cl_int Z.int_ (by decide +kernel) (aq_cons (PDO.toQ (o_add (PDO.toQ (o_mul (q_v 4) (PDO.toQ (o_add (PDO.toQ (o_fdiv (q_v 4) (PDE.q e_int))) (PDE.q e_int))))) (PDO.toQ (o_fdiv (q_v 3) (PDE.q e_int))))) aq_nil))) (PDE.q e_int)))))))⟩
theorem ok_law_mix (Z : Bt mg) (D : Df K mg "_law_mix" s_law_mix ["_law_number", "_law_turn"]) : Fp P w K mg base 1 "_law_mix" m_law_mix :=
  okP D sc_law_mix len_law_mix mono_law_mix fun f cdv A outer s H E hr => let ⟨t, h⟩ := tm_law_mix Z f cdv A outer s H E hr; ⟨t, T_law_mix, h, rd_law_mix⟩
theorem sc_law_wide : FnScope ["_law_number", "_law_turn", "_law_many", "_law_drawn", "_law_k"] ["_law_number", "_law_turn", "_law_many"] (defScope s_law_wide) := ⟨rfl, rfl, rfl, by decide +kernel, rfl, by decide +kernel, by decide +kernel⟩
theorem tm_law_wide (Z : Bt mg) (F_law_mix : Fp P w K mg base 1 "_law_mix" m_law_mix) (f : Addr) (cdv : Value) (A : Around) (outer : List Env) (s : Shared) (H : Hp) (E : XK) (hr : Room 1 (A.deeper (envOfC "_law_wide" (defScope s_law_wide) s.heap.objs.size f cdv))) :
    ∃ t, PDSs (cxOf CX0 P w K mg base ["_law_number", "_law_turn", "_law_many", "_law_drawn", "_law_k"] "_law_wide" (defScope s_law_wide) f cdv A outer s H E).nox W0 (defBody s_law_wide) t T_law_wide := by
  have nd := sc_law_wide.nd
  have HP : PassesOwn (model P w) (A.deeper (envOfC "_law_wide" (defScope s_law_wide) s.heap.objs.size f cdv)) (envOfC "_law_wide" (defScope s_law_wide) s.heap.objs.size f cdv) (fun _ _ => False) := PassesOwn.never
  exact ⟨_, (b_cons (s_set 3 nd (o_call F_law_mix hr (by decide) (a_cons (e_v 0) (a_cons (e_v 1) a_nil))))
      (b_cons (s_if (t_cmp op_gtD op2_ord (q_v 2) (PDO.toQ (o_pow (PDE.q e_int) (PDE.q e_int))))
      (b_one (s_for HP (i_r1 Z.range_ (PDE.q e_int)) (g_n 4 nd)
      (b_one (s_set 3 nd (o_add (PDO.toQ (o_mul (q_v 3) (PDO.toQ (o_pow (PDE.q e_int) (PDE.q e_int))))) (PDO.toQ (o_call F_law_mix hr (by decide) (a_cons (PDO.toE (o_add (PDO.toQ (o_add (q_v 0) (q_v 4))) (PDE.q e_int))) (a_cons (PDO.toE (o_add (PDO.toQ (o_mul (q_v 1) (PDE.q e_int))) (q_v 4))) a_nil)))))))))
      b_nil)
      (b_one (s_ret (o_mod (PDO.toQ (o_ct call_int1 cl_int Z.int_ (by decide +kernel) (aq_cons (q_v 3) aq_nil))) (q_v 2))))))⟩
theorem ok_law_wide (Z : Bt mg) (F_law_mix : Fp P w K mg base 1 "_law_mix" m_law_mix) (D : Df K mg "_law_wide" s_law_wide ["_law_number", "_law_turn", "_law_many"]) : Fp P w K mg base 2 "_law_wide" m_law_wide :=
  okP D sc_law_wide len_law_wide mono_law_wide fun f cdv A outer s H E hr => let ⟨t, h⟩ := tm_law_wide Z F_law_mix f cdv A outer s H E hr; ⟨t, T_law_wide, h, rd_law_wide⟩
theorem sc_law_store : FnScope ["_law_script", "_law_cells", "_law_blend", "_law_cell"] ["_law_script"] (defScope s_law_store) := ⟨rfl, rfl, rfl, by decide +kernel, rfl, by decide +kernel, by decide +kernel⟩
theorem tm_law_store (Z : Bt mg) (f : Addr) (cdv : Value) (A : Around) (outer : List Env) (s : Shared) (H : Hp) (E : XK) (hr : Room 0 (A.deeper (envOfC "_law_store" (defScope s_law_store) s.heap.objs.size f cdv))) :
    ∃ t, PDSs (cxOf CX0 P w K mg base ["_law_script", "_law_cells", "_law_blend", "_law_cell"] "_law_store" (defScope s_law_store) f cdv A outer s H E).nox W0 (defBody s_law_store) t T_law_store := by
  have nd := sc_law_store.nd
  have HP : PassesOwn (model P w) (A.deeper (envOfC "_law_store" (defScope s_law_store) s.heap.objs.size f cdv)) (envOfC "_law_store" (defScope s_law_store) s.heap.objs.size f cdv) (fun _ _ => False) := PassesOwn.never
  exact ⟨_, (b_cons (s_setLc 1 [("_law_cell", 3)] nd (i_seq (e_v 0)) (by show blkC ["_law_script", "_law_cells", "_law_blend", "_law_cell"] (defScope s_law_store) _ _ = true; decide +kernel) (fun _ _ _ _ _ => (g_n 3 nd)) (fun _ _ _ _ _ => PDTs.as ts_nil (by first | rfl | (dsimp only [Cx.blk]; done) | (dsimp only [Cx.blk]; rfl))) (fun _ _ _ _ _ => PDE.as (PDO.toE (o_ct call_int1 cl_int Z.int_ (by decide +kernel) (aq_cons (q_v 3) aq_nil))) (by first | rfl | (dsimp only [Cx.blk]; done) | (dsimp only [Cx.blk]; rfl))) (by decide) (sw_true rfl rfl rfl (by decide +kernel)))
      (b_cons (s_set 2 nd (o_cb call_len cl_len Z.len_ PySem.boot_len (aq_cons (q_v 1) aq_nil)))
      (b_cons (s_for HP (i_seq (e_v 1)) (g_n 3 nd)
      (b_one (s_set 2 nd (o_mod (PDO.toQ (o_ct call_int1 cl_int Z.int_ (by decide +kernel) (aq_cons (PDO.toQ (o_add (PDO.toQ (o_add (PDO.toQ (o_mul (q_v 2) (PDE.q e_int))) (q_v 3))) (PDE.q e_int))) aq_nil))) (PDE.q e_int)))))
      (b_one (s_ret (o_lst (a_cons (e_v 1) (a_cons e_int (a_cons e_int (a_cons (e_v 2) (a_cons e_int a_nil)))))))))))⟩
theorem ok_law_store (Z : Bt mg) (D : Df K mg "_law_store" s_law_store ["_law_script"]) : Fp P w K mg base 1 "_law_store" m_law_store :=
  okP D sc_law_store len_law_store mono_law_store fun f cdv A outer s H E hr => let ⟨t, h⟩ := tm_law_store Z f cdv A outer s H E hr; ⟨t, T_law_store, h, rd_law_store⟩
theorem sc_law_take : FnScope ["_law_store_here", "_law_many", "_law_cell", "_law_drawn"] ["_law_store_here", "_law_many"] (defScope s_law_take) := ⟨rfl, rfl, rfl, by decide +kernel, rfl, by decide +kernel, by decide +kernel⟩
theorem tm_law_take (Z : Bt mg) (F_law_wide : Fp P w K mg base 2 "_law_wide" m_law_wide) (f : Addr) (cdv : Value) (A : Around) (outer : List Env) (s : Shared) (H : Hp) (E : XK) (hr : Room 2 (A.deeper (envOfC "_law_take" (defScope s_law_take) s.heap.objs.size f cdv))) :
    ∃ t, PDSs (cxOf CX0 P w K mg base ["_law_store_here", "_law_many", "_law_cell", "_law_drawn"] "_law_take" (defScope s_law_take) f cdv A outer s H E).nox W0 (defBody s_law_take) t T_law_take := by
  have nd := sc_law_take.nd
  have HP : PassesOwn (model P w) (A.deeper (envOfC "_law_take" (defScope s_law_take) s.heap.objs.size f cdv)) (envOfC "_law_take" (defScope s_law_take) s.heap.objs.size f cdv) (fun _ _ => False) := PassesOwn.never
  exact ⟨_, (b_cons (s_if (t_cmp op_ltD op2_ord (q_v 1) (PDE.q e_int))
      (b_one (s_ret (PDE.toO e_int)))
      b_nil)
      (b_cons (s_stoP 0 (PDO.toE (o_add (PDE.q (e_sto 0)) (PDE.q e_int))))
      (b_cons (s_if (PDW.toT (w_and (t_cmp (op_eqA hr.units) op2_eq (PDE.q (e_sto 0)) (PDE.q e_int)) (w_and1 (t_cmp op_ltD op2_ord (PDE.q (e_sto 0)) (PDO.toQ (o_cb call_len cl_len Z.len_ PySem.boot_len (aq_cons (PDE.q (e_sto 0)) aq_nil)))))))
      (b_cons (s_set 2 nd (o_ct call_int1 cl_int Z.int_ (by decide +kernel) (aq_cons (PDO.toQ (o_ix (PDE.q (e_sto 0)) (PDE.q (e_sto 0)))) aq_nil)))
      (b_cons (s_stoP 0 (PDO.toE (o_add (PDE.q (e_sto 0)) (PDE.q e_int))))
      (b_cons (s_if (t_cmp op_ltD op2_ord (PDO.toQ (o_cb call_abs cl_int1 Z.abs_ (by decide +kernel) (aq_cons (q_v 2) aq_nil))) (PDO.toQ (o_pow (PDE.q e_int) (PDE.q e_int))))
      (b_one (s_ret (o_call F_law_wide hr (by decide) (a_cons (PDO.toE (o_mod (PDO.toQ (o_ct call_int1 cl_int Z.int_ (by decide +kernel) (aq_cons (q_v 2) aq_nil))) (PDE.q e_int))) (a_cons (e_sto 0) (a_cons (e_v 1) a_nil))))))
      b_nil)
      (b_one (s_stoP 0 (PDO.toE (o_cb call_abs cl_int1 Z.abs_ (by decide +kernel) (aq_cons (q_v 2) aq_nil))))))))
      b_nil)
      (b_cons (s_if (t_cmp op_gtD op2_ord (PDE.q (e_sto 0)) (PDE.q e_int))
      (b_cons (s_set 3 nd (o_mod (PDO.toQ (o_ct call_int1 cl_int Z.int_ (by decide +kernel) (aq_cons (PDE.q (e_sto 0)) aq_nil))) (q_v 1)))
      (b_cons (s_stoP 0 (PDO.toE (o_fdiv (PDE.q (e_sto 0)) (q_v 1))))
      (b_one (s_ret (o_v 3)))))
      b_nil)
      (b_one (s_ret (o_call F_law_wide hr (by decide) (a_cons (e_sto 0) (a_cons (e_sto 0) (a_cons (e_v 1) a_nil))))))))))⟩
theorem ok_law_take (Z : Bt mg) (F_law_wide : Fp P w K mg base 2 "_law_wide" m_law_wide) (D : Df K mg "_law_take" s_law_take ["_law_store_here", "_law_many"]) : Fs P w K mg base 3 "_law_take" m_law_take :=
  okS (N := ["_law_many", "_law_cell", "_law_drawn"]) D sc_law_take len_law_take mono_law_take fun f cdv A outer s H E hr => let ⟨t, h⟩ := tm_law_take Z F_law_wide f cdv A outer s H E hr; ⟨t, T_law_take, h, rd_law_take⟩
theorem sc_law_some : FnScope ["_law_store_here", "_law_low", "_law_high", "_law_edge"] ["_law_store_here", "_law_low", "_law_high"] (defScope s_law_some) := ⟨rfl, rfl, rfl, by decide +kernel, rfl, by decide +kernel, by decide +kernel⟩
theorem tm_law_some (Z : Bt mg) (F_law_take : Fs P w K mg base 3 "_law_take" m_law_take) (f : Addr) (cdv : Value) (A : Around) (outer : List Env) (s : Shared) (H : Hp) (E : XK) (hr : Room 3 (A.deeper (envOfC "_law_some" (defScope s_law_some) s.heap.objs.size f cdv))) :
    ∃ t, PDSs (cxOf CX0 P w K mg base ["_law_store_here", "_law_low", "_law_high", "_law_edge"] "_law_some" (defScope s_law_some) f cdv A outer s H E).nox W0 (defBody s_law_some) t T_law_some := by
  have nd := sc_law_some.nd
  have HP : PassesOwn (model P w) (A.deeper (envOfC "_law_some" (defScope s_law_some) s.heap.objs.size f cdv)) (envOfC "_law_some" (defScope s_law_some) s.heap.objs.size f cdv) (fun _ _ => False) := PassesOwn.never
  exact ⟨_, (b_cons (s_if (t_cmp op_leD op2_ord (q_v 2) (q_v 1))
      (b_one (s_ret (o_v 1)))
      b_nil)
      (b_cons (s_set 3 nd (o_callS 0 F_law_take hr (by decide) (a_cons e_int a_nil)))
      (b_cons (s_if (t_cmp op_ltD op2_ord (q_v 3) (PDE.q e_int))
      (b_one (s_ret (o_ix (PDO.toQ (o_lst (a_cons (e_v 1) (a_cons (e_v 2) (a_cons (PDO.toE (o_add (q_v 1) (PDE.q e_int))) (a_cons (PDO.toE (o_sub (q_v 2) (PDE.q e_int))) a_nil)))))) (q_v 3))))
      b_nil)
      (b_one (s_ret (o_add (q_v 1) (PDO.toQ (o_callS 0 F_law_take hr (by decide) (a_cons (PDO.toE (o_add (PDO.toQ (o_sub (q_v 2) (q_v 1))) (PDE.q e_int))) a_nil)))))))))⟩
theorem ok_law_some (Z : Bt mg) (F_law_take : Fs P w K mg base 3 "_law_take" m_law_take) (D : Df K mg "_law_some" s_law_some ["_law_store_here", "_law_low", "_law_high"]) : Fs P w K mg base 4 "_law_some" m_law_some :=
  okS (N := ["_law_low", "_law_high", "_law_edge"]) D sc_law_some len_law_some mono_law_some fun f cdv A outer s H E hr => let ⟨t, h⟩ := tm_law_some Z F_law_take f cdv A outer s H E hr; ⟨t, T_law_some, h, rd_law_some⟩
theorem sc_law_pick : FnScope ["_law_store_here", "_law_row"] ["_law_store_here", "_law_row"] (defScope s_law_pick) := ⟨rfl, rfl, rfl, by decide +kernel, rfl, by decide +kernel, by decide +kernel⟩
theorem tm_law_pick (Z : Bt mg) (F_law_take : Fs P w K mg base 3 "_law_take" m_law_take) (f : Addr) (cdv : Value) (A : Around) (outer : List Env) (s : Shared) (H : Hp) (E : XK) (hr : Room 3 (A.deeper (envOfC "_law_pick" (defScope s_law_pick) s.heap.objs.size f cdv))) :
    ∃ t, PDSs (cxOf CX0 P w K mg base ["_law_store_here", "_law_row"] "_law_pick" (defScope s_law_pick) f cdv A outer s H E).nox W0 (defBody s_law_pick) t T_law_pick := by
  have nd := sc_law_pick.nd
  have HP : PassesOwn (model P w) (A.deeper (envOfC "_law_pick" (defScope s_law_pick) s.heap.objs.size f cdv)) (envOfC "_law_pick" (defScope s_law_pick) s.heap.objs.size f cdv) (fun _ _ => False) := PassesOwn.never
  exact ⟨_, (b_one (s_ret (o_ix (q_v 1) (PDO.toQ (o_callS 0 F_law_take hr (by decide) (a_cons (PDO.toE (o_cb call_len cl_len Z.len_ PySem.boot_len (aq_cons (q_v 1) aq_nil))) a_nil))))))⟩
theorem ok_law_pick (Z : Bt mg) (F_law_take : Fs P w K mg base 3 "_law_take" m_law_take) (D : Df K mg "_law_pick" s_law_pick ["_law_store_here", "_law_row"]) : Fs P w K mg base 4 "_law_pick" m_law_pick :=
  okS (N := ["_law_row"]) D sc_law_pick len_law_pick mono_law_pick fun f cdv A outer s H E hr => let ⟨t, h⟩ := tm_law_pick Z F_law_take f cdv A outer s H E hr; ⟨t, T_law_pick, h, rd_law_pick⟩
theorem sc_law_mixed : FnScope ["_law_store_here", "_law_row", "_law_style", "_law_left", "_law_out", "_law_k", "_law_at"] ["_law_store_here", "_law_row"] (defScope s_law_mixed) := ⟨rfl, rfl, rfl, by decide +kernel, rfl, by decide +kernel, by decide +kernel⟩
theorem tm_law_mixed (Z : Bt mg) (F_law_take : Fs P w K mg base 3 "_law_take" m_law_take) (f : Addr) (cdv : Value) (A : Around) (outer : List Env) (s : Shared) (H : Hp) (E : XK) (hr : Room 3 (A.deeper (envOfC "_law_mixed" (defScope s_law_mixed) s.heap.objs.size f cdv))) :
    ∃ t, PDSs (cxOf CX0 P w K mg base ["_law_store_here", "_law_row", "_law_style", "_law_left", "_law_out", "_law_k", "_law_at"] "_law_mixed" (defScope s_law_mixed) f cdv A outer s H E).nox W0 (defBody s_law_mixed) t T_law_mixed := by
  have nd := sc_law_mixed.nd
  have HP : PassesOwn (model P w) (A.deeper (envOfC "_law_mixed" (defScope s_law_mixed) s.heap.objs.size f cdv)) (envOfC "_law_mixed" (defScope s_law_mixed) s.heap.objs.size f cdv) (fun _ _ => False) := PassesOwn.never
  exact ⟨_, (b_cons (s_set 2 nd (o_callS 0 F_law_take hr (by decide) (a_cons e_int a_nil)))
      (b_cons (s_set 3 nd (o_ct call_list_of cl_list Z.list_ (by decide +kernel) (aq_cons (q_v 1) aq_nil)))
      (b_cons (s_if (t_cmp (op_eqA hr.units) op2_eq (q_v 2) (PDE.q e_int))
      (b_one (s_ret (o_v 3)))
      b_nil)
      (b_cons (s_if (t_cmp (op_eqA hr.units) op2_eq (q_v 2) (PDE.q e_int))
      (b_one (s_ret (o_revL (q_v 3))))
      b_nil)
      (b_cons (s_set 4 nd (o_lst a_nil))
      (b_cons (s_for HP (i_r1 Z.range_ (PDO.toQ (o_cb call_len cl_len Z.len_ PySem.boot_len (aq_cons (q_v 1) aq_nil)))) (g_n 5 nd)
      (b_cons (s_set 6 nd (o_callS 0 F_law_take hr (by decide) (a_cons (PDO.toE (o_cb call_len cl_len Z.len_ PySem.boot_len (aq_cons (q_v 3) aq_nil))) a_nil)))
      (b_cons (s_app 4 (PDO.toE (o_ix (q_v 3) (q_v 6))))
      (b_one (s_set 3 nd (o_add (PDO.toQ (o_sl (q_v 3) p_no (p_some (q_v 6)))) (PDO.toQ (o_sl (q_v 3) (p_some (PDO.toQ (o_add (q_v 6) (PDE.q e_int)))) p_no))))))))
      (b_one (s_ret (o_v 4)))))))))⟩
theorem ok_law_mixed (Z : Bt mg) (F_law_take : Fs P w K mg base 3 "_law_take" m_law_take) (D : Df K mg "_law_mixed" s_law_mixed ["_law_store_here", "_law_row"]) : Fs P w K mg base 4 "_law_mixed" m_law_mixed :=
  okS (N := ["_law_row", "_law_style", "_law_left", "_law_out", "_law_k", "_law_at"]) D sc_law_mixed len_law_mixed mono_law_mixed fun f cdv A outer s H E hr => let ⟨t, h⟩ := tm_law_mixed Z F_law_take f cdv A outer s H E hr; ⟨t, T_law_mixed, h, rd_law_mixed⟩
theorem sc_law_is_name : FnScope ["_law_text", "_law_sign"] ["_law_text"] (defScope s_law_is_name) := ⟨rfl, rfl, rfl, by decide +kernel, rfl, by decide +kernel, by decide +kernel⟩
theorem tm_law_is_name (Z : Bt mg) (f : Addr) (cdv : Value) (A : Around) (outer : List Env) (s : Shared) (H : Hp) (E : XK) (hr : Room 0 (A.deeper (envOfC "_law_is_name" (defScope s_law_is_name) s.heap.objs.size f cdv))) :
    ∃ t, PDSs (cxOf CX0 P w K mg base ["_law_text", "_law_sign"] "_law_is_name" (defScope s_law_is_name) f cdv A outer s H E).nox W0 (defBody s_law_is_name) t T_law_is_name := by
  have nd := sc_law_is_name.nd
  have HP : PassesOwn (model P w) (A.deeper (envOfC "_law_is_name" (defScope s_law_is_name) s.heap.objs.size f cdv)) (envOfC "_law_is_name" (defScope s_law_is_name) s.heap.objs.size f cdv) (fun _ _ => False) := PassesOwn.never
  exact ⟨_, (b_cons (s_if (PDW.toT (w_or (t_not (t_val (o_isa .str Z (q_v 0)))) (w_or (t_cmp op_ltD op2_ord (PDO.toQ (o_cb call_len cl_len Z.len_ PySem.boot_len (aq_cons (q_v 0) aq_nil))) (PDE.q e_int)) (w_or1 (t_cmp op_gtD op2_ord (PDO.toQ (o_cb call_len cl_len Z.len_ PySem.boot_len (aq_cons (q_v 0) aq_nil))) (PDE.q e_int))))))
      (b_one (s_ret (PDE.toO e_bl)))
      b_nil)
      (b_cons (s_for HP (i_seq (e_v 0)) (g_n 1 nd)
      (b_one (s_if (t_cmp op_niA op2_in (q_v 1) (PDE.q e_str))
      (b_one (s_ret (PDE.toO e_bl)))
      b_nil)))
      (b_one (s_ret (o_cmp op_niA op2_in (PDO.toQ (o_ix (q_v 0) (PDE.q e_int))) (PDE.q e_str))))))⟩
theorem ok_law_is_name (Z : Bt mg) (D : Df K mg "_law_is_name" s_law_is_name ["_law_text"]) : Fp P w K mg base 1 "_law_is_name" m_law_is_name :=
  okP D sc_law_is_name len_law_is_name mono_law_is_name fun f cdv A outer s H E hr => let ⟨t, h⟩ := tm_law_is_name Z f cdv A outer s H E hr; ⟨t, T_law_is_name, h, rd_law_is_name⟩
theorem sc_law_fresh : FnScope ["_law_text", "_law_taken", "_law_k"] ["_law_text", "_law_taken"] (defScope s_law_fresh) := ⟨rfl, rfl, rfl, by decide +kernel, rfl, by decide +kernel, by decide +kernel⟩
theorem tm_law_fresh (Z : Bt mg) (F_law_is_name : Fp P w K mg base 1 "_law_is_name" m_law_is_name) (f : Addr) (cdv : Value) (A : Around) (outer : List Env) (s : Shared) (H : Hp) (E : XK) (hr : Room 1 (A.deeper (envOfC "_law_fresh" (defScope s_law_fresh) s.heap.objs.size f cdv))) :
    ∃ t, PDSs (cxOf CX0 P w K mg base ["_law_text", "_law_taken", "_law_k"] "_law_fresh" (defScope s_law_fresh) f cdv A outer s H E).nox W0 (defBody s_law_fresh) t T_law_fresh := by
  have nd := sc_law_fresh.nd
  have HP : PassesOwn (model P w) (A.deeper (envOfC "_law_fresh" (defScope s_law_fresh) s.heap.objs.size f cdv)) (envOfC "_law_fresh" (defScope s_law_fresh) s.heap.objs.size f cdv) (fun _ _ => False) := PassesOwn.never
  exact ⟨_, (b_cons (s_if (PDW.toT (w_and (t_val (o_call F_law_is_name hr (by decide) (a_cons (e_v 0) a_nil))) (w_and1 (t_cmp op_niA op2_in (q_v 0) (q_v 1)))))
      (b_one (s_ret (o_v 0)))
      b_nil)
      (b_cons (s_for HP (i_r1 Z.range_ (PDO.toQ (o_add (PDO.toQ (o_cb call_len cl_len Z.len_ PySem.boot_len (aq_cons (q_v 1) aq_nil))) (PDE.q e_int)))) (g_n 2 nd)
      (b_one (s_if (t_cmp op_niA op2_in (PDO.toQ (o_add (PDE.q e_str) (PDO.toQ (o_ct call_str_int cl_str Z.str_ (by decide +kernel) (aq_cons (q_v 2) aq_nil))))) (q_v 1))
      (b_one (s_ret (o_add (PDE.q e_str) (PDO.toQ (o_ct call_str_int cl_str Z.str_ (by decide +kernel) (aq_cons (q_v 2) aq_nil))))))
      b_nil)))
      (b_one (s_ret (PDE.toO e_str)))))⟩
theorem ok_law_fresh (Z : Bt mg) (F_law_is_name : Fp P w K mg base 1 "_law_is_name" m_law_is_name) (D : Df K mg "_law_fresh" s_law_fresh ["_law_text", "_law_taken"]) : Fp P w K mg base 2 "_law_fresh" m_law_fresh :=
  okP D sc_law_fresh len_law_fresh mono_law_fresh fun f cdv A outer s H E hr => let ⟨t, h⟩ := tm_law_fresh Z F_law_is_name f cdv A outer s H E hr; ⟨t, T_law_fresh, h, rd_law_fresh⟩
theorem sc_law_word : FnScope ["_law_store_here", "_law_signs", "_law_many", "_law_text", "_law_size", "_law_k", "_law_left"] ["_law_store_here"] (defScope s_law_word) := ⟨rfl, rfl, rfl, by decide +kernel, rfl, by decide +kernel, by decide +kernel⟩
theorem tm_law_word (Z : Bt mg) (F_law_some : Fs P w K mg base 4 "_law_some" m_law_some) (F_law_take : Fs P w K mg base 3 "_law_take" m_law_take) (f : Addr) (cdv : Value) (A : Around) (outer : List Env) (s : Shared) (H : Hp) (E : XK) (hr : Room 4 (A.deeper (envOfC "_law_word" (defScope s_law_word) s.heap.objs.size f cdv))) :
    ∃ t, PDSs (cxOf CX0 P w K mg base ["_law_store_here", "_law_signs", "_law_many", "_law_text", "_law_size", "_law_k", "_law_left"] "_law_word" (defScope s_law_word) f cdv A outer s H E).nox W0 (defBody s_law_word) t T_law_word := by
  have nd := sc_law_word.nd
  have HP : PassesOwn (model P w) (A.deeper (envOfC "_law_word" (defScope s_law_word) s.heap.objs.size f cdv)) (envOfC "_law_word" (defScope s_law_word) s.heap.objs.size f cdv) (fun _ _ => False) := PassesOwn.never
  exact ⟨_, (b_cons (s_set 1 nd (PDE.toO e_str))
      (b_cons (s_set 2 nd (PDE.toO e_int))
      (b_cons (s_set 3 nd (o_ix (q_v 1) (PDO.toQ (o_callS 0 F_law_take hr (by decide) (a_cons e_int a_nil)))))
      (b_cons (s_set 4 nd (o_callS 0 F_law_some hr (by decide) (a_cons e_int (a_cons e_int a_nil))))
      (b_cons (s_for HP (i_r1 Z.range_ (q_v 4)) (g_n 5 nd)
      (b_one (s_set 2 nd (o_mul (q_v 2) (PDE.q e_int)))))
      (b_cons (s_set 6 nd (o_callS 0 F_law_take hr (by decide) (a_cons (e_v 2) a_nil)))
      (b_cons (s_for HP (i_r1 Z.range_ (q_v 4)) (g_n 5 nd)
      (b_cons (s_set 3 nd (o_add (q_v 3) (PDO.toQ (o_ix (q_v 1) (PDO.toQ (o_mod (PDO.toQ (o_ct call_int1 cl_int Z.int_ (by decide +kernel) (aq_cons (q_v 6) aq_nil))) (PDE.q e_int)))))))
      (b_one (s_set 6 nd (o_fdiv (q_v 6) (PDE.q e_int))))))
      (b_one (s_ret (o_v 3))))))))))⟩
theorem ok_law_word (Z : Bt mg) (F_law_some : Fs P w K mg base 4 "_law_some" m_law_some) (F_law_take : Fs P w K mg base 3 "_law_take" m_law_take) (D : Df K mg "_law_word" s_law_word ["_law_store_here"]) : Fs P w K mg base 5 "_law_word" m_law_word :=
  okS (N := ["_law_signs", "_law_many", "_law_text", "_law_size", "_law_k", "_law_left"]) D sc_law_word len_law_word mono_law_word fun f cdv A outer s H E hr => let ⟨t, h⟩ := tm_law_word Z F_law_some F_law_take f cdv A outer s H E hr; ⟨t, T_law_word, h, rd_law_word⟩
theorem sc_law_names : FnScope ["_law_store_here", "_law_many", "_law_signs", "_law_words", "_law_style", "_law_head", "_law_cut", "_law_out", "_law_k", "_law_text"] ["_law_store_here", "_law_many"] (defScope s_law_names) := ⟨rfl, rfl, rfl, by decide +kernel, rfl, by decide +kernel, by decide +kernel⟩
theorem tm_law_names (Z : Bt mg) (F_law_fresh : Fp P w K mg base 2 "_law_fresh" m_law_fresh) (F_law_mixed : Fs P w K mg base 4 "_law_mixed" m_law_mixed) (F_law_take : Fs P w K mg base 3 "_law_take" m_law_take) (F_law_word : Fs P w K mg base 5 "_law_word" m_law_word) (f : Addr) (cdv : Value) (A : Around) (outer : List Env) (s : Shared) (H : Hp) (E : XK) (hr : Room 5 (A.deeper (envOfC "_law_names" (defScope s_law_names) s.heap.objs.size f cdv))) :
    ∃ t, PDSs (cxOf CX0 P w K mg base ["_law_store_here", "_law_many", "_law_signs", "_law_words", "_law_style", "_law_head", "_law_cut", "_law_out", "_law_k", "_law_text"] "_law_names" (defScope s_law_names) f cdv A outer s H E).nox W0 (defBody s_law_names) t T_law_names := by
  have nd := sc_law_names.nd
  have HP : PassesOwn (model P w) (A.deeper (envOfC "_law_names" (defScope s_law_names) s.heap.objs.size f cdv)) (envOfC "_law_names" (defScope s_law_names) s.heap.objs.size f cdv) (fun _ _ => False) := PassesOwn.never
  exact ⟨_, (b_cons (s_set 2 nd (PDE.toO e_str))
      (b_cons (s_set 3 nd (o_lst (a_cons e_str (a_cons e_str (a_cons e_str (a_cons e_str (a_cons e_str (a_cons e_str (a_cons e_str (a_cons e_str (a_cons e_str (a_cons e_str (a_cons e_str (a_cons e_str a_nil))))))))))))))
      (b_cons (s_set 3 nd (o_add (q_v 3) (PDO.toQ (o_lst (a_cons e_str (a_cons e_str (a_cons e_str (a_cons e_str (a_cons e_str (a_cons e_str a_nil))))))))))
      (b_cons (s_set 4 nd (o_callS 0 F_law_take hr (by decide) (a_cons e_int a_nil)))
      (b_cons (s_set 5 nd (PDE.toO e_str))
      (b_cons (s_if (t_cmp op_inA op2_in (q_v 4) (PDE.q (e_tup (a_cons e_int (a_cons e_int (a_cons e_int a_nil))))))
      (b_one (s_set 5 nd (o_add (PDO.toQ (o_callS 0 F_law_word hr (by decide) a_nil)) (PDO.toQ (o_ix (PDO.toQ (o_lst (a_cons e_str (a_cons e_str a_nil)))) (PDO.toQ (o_callS 0 F_law_take hr (by decide) (a_cons e_int a_nil))))))))
      b_nil)
      (b_cons (s_set 6 nd (o_callS 0 F_law_take hr (by decide) (a_cons e_int a_nil)))
      (b_cons (s_set 7 nd (o_lst a_nil))
      (b_cons (s_for HP (i_r1 Z.range_ (q_v 1)) (g_n 8 nd)
      (b_cons (s_set 9 nd (o_ix (q_v 2) (PDO.toQ (o_mod (PDO.toQ (o_ct call_int1 cl_int Z.int_ (by decide +kernel) (aq_cons (q_v 8) aq_nil))) (PDE.q e_int)))))
      (b_cons (s_if (t_cmp op_inA op2_in (q_v 4) (PDE.q (e_tup (a_cons e_int (a_cons e_int a_nil)))))
      (b_one (s_set 9 nd (o_add (PDO.toQ (o_add (PDO.toQ (o_sl (q_v 5) p_no (p_some (q_v 6)))) (q_v 9))) (PDO.toQ (o_sl (q_v 5) (p_some (q_v 6)) (p_some (PDE.q e_int)))))))
      b_nil)
      (b_cons (s_if (t_cmp (op_eqA hr.units) op2_eq (q_v 4) (PDE.q e_int))
      (b_one (s_set 9 nd (o_ix (q_v 3) (PDO.toQ (o_mod (PDO.toQ (o_ct call_int1 cl_int Z.int_ (by decide +kernel) (aq_cons (q_v 8) aq_nil))) (PDE.q e_int))))))
      b_nil)
      (b_cons (s_if (t_cmp (op_eqA hr.units) op2_eq (q_v 4) (PDE.q e_int))
      (b_one (s_set 9 nd (o_add (PDO.toQ (o_ix (q_v 2) (PDO.toQ (o_sub (PDE.q e_int) (PDO.toQ (o_mod (PDO.toQ (o_ct call_int1 cl_int Z.int_ (by decide +kernel) (aq_cons (q_v 8) aq_nil))) (PDE.q e_int))))))) (PDO.toQ (o_mul (PDE.q e_str) (PDO.toQ (o_mod (PDO.toQ (o_ct call_int1 cl_int Z.int_ (by decide +kernel) (aq_cons (q_v 8) aq_nil))) (PDE.q e_int))))))))
      b_nil)
      (b_cons (s_if (t_cmp (op_eqA hr.units) op2_eq (q_v 4) (PDE.q e_int))
      (b_one (s_set 9 nd (o_add (PDE.q e_str) (PDO.toQ (o_ct call_str_int cl_str Z.str_ (by decide +kernel) (aq_cons (PDO.toQ (o_add (PDE.q e_int) (q_v 8))) aq_nil))))))
      b_nil)
      (b_cons (s_if (t_cmp (op_eqA hr.units) op2_eq (q_v 4) (PDE.q e_int))
      (b_one (s_set 9 nd (o_callS 0 F_law_word hr (by decide) a_nil)))
      b_nil)
      (b_cons (s_if (t_cmp (op_eqA hr.units) op2_eq (q_v 4) (PDE.q e_int))
      (b_one (s_set 9 nd (o_sl (PDO.toQ (o_add (q_v 5) (PDE.q e_str))) p_no (p_some (PDO.toQ (o_add (PDE.q e_int) (PDO.toQ (o_mod (PDO.toQ (o_ct call_int1 cl_int Z.int_ (by decide +kernel) (aq_cons (q_v 8) aq_nil))) (PDE.q e_int)))))))))
      b_nil)
      (b_one (s_app 7 (e_callQ F_law_fresh hr (by decide) (aq_cons (q_v 9) (aq_cons (q_v 7) aq_nil)))))))))))))
      (b_one (s_ret (o_callS 0 F_law_mixed hr (by decide) (a_cons (e_v 7) a_nil)))))))))))))⟩
theorem ok_law_names (Z : Bt mg) (F_law_fresh : Fp P w K mg base 2 "_law_fresh" m_law_fresh) (F_law_mixed : Fs P w K mg base 4 "_law_mixed" m_law_mixed) (F_law_take : Fs P w K mg base 3 "_law_take" m_law_take) (F_law_word : Fs P w K mg base 5 "_law_word" m_law_word) (D : Df K mg "_law_names" s_law_names ["_law_store_here", "_law_many"]) : Fs P w K mg base 6 "_law_names" m_law_names :=
  okS (N := ["_law_many", "_law_signs", "_law_words", "_law_style", "_law_head", "_law_cut", "_law_out", "_law_k", "_law_text"]) D sc_law_names len_law_names mono_law_names fun f cdv A outer s H E hr => let ⟨t, h⟩ := tm_law_names Z F_law_fresh F_law_mixed F_law_take F_law_word f cdv A outer s H E hr; ⟨t, T_law_names, h, rd_law_names⟩
theorem sc_law_is_number : FnScope ["_law_thing"] ["_law_thing"] (defScope s_law_is_number) := ⟨rfl, rfl, rfl, by decide +kernel, rfl, by decide +kernel, by decide +kernel⟩
theorem tm_law_is_number (Z : Bt mg) (f : Addr) (cdv : Value) (A : Around) (outer : List Env) (s : Shared) (H : Hp) (E : XK) (hr : Room 0 (A.deeper (envOfC "_law_is_number" (defScope s_law_is_number) s.heap.objs.size f cdv))) :
    ∃ t, PDSs (cxOf CX0 P w K mg base ["_law_thing"] "_law_is_number" (defScope s_law_is_number) f cdv A outer s H E).nox W0 (defBody s_law_is_number) t T_law_is_number := by
  have nd := sc_law_is_number.nd
  have HP : PassesOwn (model P w) (A.deeper (envOfC "_law_is_number" (defScope s_law_is_number) s.heap.objs.size f cdv)) (envOfC "_law_is_number" (defScope s_law_is_number) s.heap.objs.size f cdv) (fun _ _ => False) := PassesOwn.never
  exact ⟨_, (b_one (s_ret (o_and (PDO.toE (o_isa .int Z (q_v 0))) (o_one (o_not (PDO.toQ (o_isa .bool Z (q_v 0))))))))⟩
theorem ok_law_is_number (Z : Bt mg) (D : Df K mg "_law_is_number" s_law_is_number ["_law_thing"]) : Fp P w K mg base 1 "_law_is_number" m_law_is_number :=
  okP D sc_law_is_number len_law_is_number mono_law_is_number fun f cdv A outer s H E hr => let ⟨t, h⟩ := tm_law_is_number Z f cdv A outer s H E hr; ⟨t, T_law_is_number, h, rd_law_is_number⟩
theorem sc_law_same : FnScope ["_law_actual", "_law_due", "_law_key", "_law_k"] ["_law_actual", "_law_due"] (defScope s_law_same) := ⟨rfl, rfl, rfl, by decide +kernel, rfl, by decide +kernel, by decide +kernel⟩
theorem tm_law_same (Z : Bt mg) (F_law_is_number : Fp P w K mg base 1 "_law_is_number" m_law_is_number) {k : Nat} {mR : MP} (FR : Fp P w K mg base k "_law_same" mR) (hk : 1 ≤ k) (f : Addr) (cdv : Value) (A : Around) (outer : List Env) (s : Shared) (H : Hp) (E : XK) (hr : Room k (A.deeper (envOfC "_law_same" (defScope s_law_same) s.heap.objs.size f cdv))) :
    ∃ t, PDSs (cxOf CX0 P w K mg base ["_law_actual", "_law_due", "_law_key", "_law_k"] "_law_same" (defScope s_law_same) f cdv A outer s H E).nox W0 (defBody s_law_same) t (T_law_same mR) := by
  have nd := sc_law_same.nd
  have HP : PassesOwn (model P w) (A.deeper (envOfC "_law_same" (defScope s_law_same) s.heap.objs.size f cdv)) (envOfC "_law_same" (defScope s_law_same) s.heap.objs.size f cdv) (fun _ _ => False) := PassesOwn.never
  exact ⟨_, (b_cons (s_if (t_cmp op_isA op2_is (q_v 1) (PDE.q e_non))
      (b_one (s_ret (o_cmp op_isA op2_is (q_v 0) (PDE.q e_non))))
      b_nil)
      (b_cons (s_if (t_cmp op_isA op2_is (q_v 1) (PDE.q e_bl))
      (b_one (s_ret (o_cmp op_isA op2_is (q_v 0) (PDE.q e_bl))))
      b_nil)
      (b_cons (s_if (t_cmp op_isA op2_is (q_v 1) (PDE.q e_bl))
      (b_one (s_ret (o_cmp op_isA op2_is (q_v 0) (PDE.q e_bl))))
      b_nil)
      (b_cons (s_if (t_val (o_isa .int Z (q_v 1)))
      (b_one (s_ret (o_and (PDO.toE (o_call F_law_is_number hr (by omega) (a_cons (e_v 0) a_nil))) (o_one (o_cmp (op_eqA hr.units) op2_eq (q_v 0) (q_v 1))))))
      b_nil)
      (b_cons (s_if (t_val (o_isa .str Z (q_v 1)))
      (b_one (s_ret (o_and (PDO.toE (o_isa .str Z (q_v 0))) (o_one (o_cmp (op_eqA hr.units) op2_eq (q_v 0) (q_v 1))))))
      b_nil)
      (b_cons (s_if (t_val (o_isa .dic Z (q_v 1)))
      b_never
      b_nil)
      (b_cons (s_if (PDW.toT (w_and (t_val (o_isa .lst Z (q_v 1))) (w_and1 (t_not (t_val (o_isa .lst Z (q_v 0)))))))
      (b_one (s_ret (PDE.toO e_bl)))
      b_nil)
      (b_cons (s_if (PDW.toT (w_and (t_val (o_isa .tup Z (q_v 1))) (w_and1 (t_not (t_val (o_isa .tup Z (q_v 0)))))))
      (b_one (s_ret (PDE.toO e_bl)))
      b_nil)
      (b_cons (s_if (t_not (t_val (o_isa2 .lst .tup Z (q_v 1))))
      (b_one (s_ret (o_cmp op_isA op2_is (PDO.toQ (o_cmp (op_eqA hr.units) op2_eq (q_v 0) (q_v 1))) (PDE.q e_bl))))
      b_nil)
      (b_cons (s_if (t_cmp (op_neA hr.units) op2_eq (PDO.toQ (o_cb call_len cl_len Z.len_ PySem.boot_len (aq_cons (q_v 0) aq_nil))) (PDO.toQ (o_cb call_len cl_len Z.len_ PySem.boot_len (aq_cons (q_v 1) aq_nil))))
      (b_one (s_ret (PDE.toO e_bl)))
      b_nil)
      (b_cons (s_for HP (i_r1 Z.range_ (PDO.toQ (o_cb call_len cl_len Z.len_ PySem.boot_len (aq_cons (q_v 1) aq_nil)))) (g_n 3 nd)
      (b_one (s_if (t_not (t_val (o_call FR hr (by omega) (a_cons (PDO.toE (o_ix (q_v 0) (q_v 3))) (a_cons (PDO.toE (o_ix (q_v 1) (q_v 3))) a_nil)))))
      (b_one (s_ret (PDE.toO e_bl)))
      b_nil)))
      (b_one (s_ret (PDE.toO e_bl))))))))))))))⟩
theorem okn_law_same (Z : Bt mg) (F_law_is_number : Fp P w K mg base 1 "_law_is_number" m_law_is_number) (D : Df K mg "_law_same" s_law_same ["_law_actual", "_law_due"]) : ∀ n, Fp P w K mg base (n + 3) "_law_same" (m_same n)
  | 0 => okP D sc_law_same len_same mono_same fun f cdv A outer s H E hr => let ⟨t, h⟩ := tm_law_same Z F_law_is_number (fp_none D 2) (by omega) f cdv A outer s H E hr; ⟨t, _, h, rd_same 0 _ (fun i e => nomatch e)⟩
  | n + 1 => okP D sc_law_same len_same mono_same fun f cdv A outer s H E hr => let ⟨t, h⟩ := tm_law_same Z F_law_is_number (okn_law_same Z F_law_is_number D n) (by omega) f cdv A outer s H E hr; ⟨t, _, h, rd_same (n + 1) _ (fun i e => by cases e; exact fun _ _ h => h)⟩
theorem ok_law_same (Z : Bt mg) (F_law_is_number : Fp P w K mg base 1 "_law_is_number" m_law_is_number) (D : Df K mg "_law_same" s_law_same ["_law_actual", "_law_due"]) : Fp P w K mg base 8 "_law_same" m_law_same := okn_law_same Z F_law_is_number D 5
theorem sc_law_known : FnScope ["_law_parts", "_law_number", "_law_row"] ["_law_parts", "_law_number"] (defScope s_law_known) := ⟨rfl, rfl, rfl, by decide +kernel, rfl, by decide +kernel, by decide +kernel⟩
theorem tm_law_known (Z : Bt mg) (f : Addr) (cdv : Value) (A : Around) (outer : List Env) (s : Shared) (H : Hp) (E : XK) (hr : Room 0 (A.deeper (envOfC "_law_known" (defScope s_law_known) s.heap.objs.size f cdv))) :
    ∃ t, PDSs (cxOf CX0 P w K mg base ["_law_parts", "_law_number", "_law_row"] "_law_known" (defScope s_law_known) f cdv A outer s H E).nox W0 (defBody s_law_known) t T_law_known := by
  have nd := sc_law_known.nd
  have HP : PassesOwn (model P w) (A.deeper (envOfC "_law_known" (defScope s_law_known) s.heap.objs.size f cdv)) (envOfC "_law_known" (defScope s_law_known) s.heap.objs.size f cdv) (fun _ _ => False) := PassesOwn.never
  exact ⟨_, (b_cons (s_if (t_cmp (op_eqA hr.units) op2_eq (q_v 1) (PDE.q e_int))
      (b_one (s_ret (o_cb (cr_sortA (hu64 hr)) cl_sortA Z.sorted_ (by decide +kernel) (aq_cons (PDO.toQ (o_ct call_list_of cl_list Z.list_ (by decide +kernel) (aq_cons (PDO.toQ (o_ix (q_v 0) (PDE.q e_int))) aq_nil))) aq_nil))))
      b_nil)
      (b_one (s_ret (o_cb (cr_sortA (hu64 hr)) cl_sortA Z.sorted_ (by decide +kernel) (aq_cons (PDO.toQ (o_lc [("_law_row", 2)] nd (i_seq (PDO.toE (o_ix (q_v 0) (q_v 1)))) (by show blkC ["_law_parts", "_law_number", "_law_row"] (defScope s_law_known) _ _ = true; decide +kernel) (fun _ _ _ _ _ => (g_n 2 nd)) (fun _ _ _ _ _ => PDTs.as ts_nil (by first | rfl | (dsimp only [Cx.blk]; done) | (dsimp only [Cx.blk]; rfl))) (fun _ _ _ _ _ => PDE.as (PDO.toE (o_ix (q_v 2) (PDE.q e_int))) (by first | rfl | (dsimp only [Cx.blk]; done) | (dsimp only [Cx.blk]; rfl))) (by decide))) aq_nil)))))⟩
theorem ok_law_known (Z : Bt mg) (D : Df K mg "_law_known" s_law_known ["_law_parts", "_law_number"]) : Fp P w K mg base 1 "_law_known" m_law_known :=
  okP D sc_law_known len_law_known mono_law_known fun f cdv A outer s H E hr => let ⟨t, h⟩ := tm_law_known Z f cdv A outer s H E hr; ⟨t, T_law_known, h, rd_law_known⟩
theorem sc_law_entries : FnScope ["_law_parts", "_law_row"] ["_law_parts"] (defScope s_law_entries) := ⟨rfl, rfl, rfl, by decide +kernel, rfl, by decide +kernel, by decide +kernel⟩
theorem tm_law_entries (Z : Bt mg) (f : Addr) (cdv : Value) (A : Around) (outer : List Env) (s : Shared) (H : Hp) (E : XK) (hr : Room 0 (A.deeper (envOfC "_law_entries" (defScope s_law_entries) s.heap.objs.size f cdv))) :
    ∃ t, PDSs (cxOf CX0 P w K mg base ["_law_parts", "_law_row"] "_law_entries" (defScope s_law_entries) f cdv A outer s H E).nox W0 (defBody s_law_entries) t T_law_entries := by
  have nd := sc_law_entries.nd
  have HP : PassesOwn (model P w) (A.deeper (envOfC "_law_entries" (defScope s_law_entries) s.heap.objs.size f cdv)) (envOfC "_law_entries" (defScope s_law_entries) s.heap.objs.size f cdv) (fun _ _ => False) := PassesOwn.never
  exact ⟨_, (b_one (s_ret (o_cb (cr_sortA (hu64 hr)) cl_sortA Z.sorted_ (by decide +kernel) (aq_cons (PDO.toQ (o_lc [("_law_row", 1)] nd (i_seq (PDO.toE (o_ix (q_v 0) (PDE.q e_int)))) (by show blkC ["_law_parts", "_law_row"] (defScope s_law_entries) _ _ = true; decide +kernel) (fun _ _ _ _ _ => (g_n 1 nd)) (fun _ _ _ _ _ => PDTs.as ts_nil (by first | rfl | (dsimp only [Cx.blk]; done) | (dsimp only [Cx.blk]; rfl))) (fun _ _ _ _ _ => PDE.as (e_tup (a_cons (PDO.toE (o_ix (q_v 1) (PDE.q e_int))) (a_cons (PDO.toE (o_cb (call_min2A rfl) cl_two Z.min_ (by decide +kernel) (aq_cons (PDO.toQ (o_ix (q_v 1) (PDE.q e_int))) (aq_cons (PDO.toQ (o_ix (q_v 1) (PDE.q e_int))) aq_nil)))) (a_cons (PDO.toE (o_cb (call_max2A rfl) cl_two Z.max_ (by decide +kernel) (aq_cons (PDO.toQ (o_ix (q_v 1) (PDE.q e_int))) (aq_cons (PDO.toQ (o_ix (q_v 1) (PDE.q e_int))) aq_nil)))) (a_cons (PDO.toE (o_ix (q_v 1) (PDE.q e_int))) a_nil))))) (by first | rfl | (dsimp only [Cx.blk]; done) | (dsimp only [Cx.blk]; rfl))) (by decide))) aq_nil))))⟩
theorem ok_law_entries (Z : Bt mg) (D : Df K mg "_law_entries" s_law_entries ["_law_parts"]) : Fp P w K mg base 1 "_law_entries" m_law_entries :=
  okP D sc_law_entries len_law_entries mono_law_entries fun f cdv A outer s H E hr => let ⟨t, h⟩ := tm_law_entries Z f cdv A outer s H E hr; ⟨t, T_law_entries, h, rd_law_entries⟩
theorem sc_law_same_deep : FnScope ["_law_parts", "_law_others"] ["_law_parts", "_law_others"] (defScope s_law_same_deep) := ⟨rfl, rfl, rfl, by decide +kernel, rfl, by decide +kernel, by decide +kernel⟩
theorem tm_law_same_deep (Z : Bt mg) (F_law_entries : Fp P w K mg base 1 "_law_entries" m_law_entries) (f : Addr) (cdv : Value) (A : Around) (outer : List Env) (s : Shared) (H : Hp) (E : XK) (hr : Room 1 (A.deeper (envOfC "_law_same_deep" (defScope s_law_same_deep) s.heap.objs.size f cdv))) :
    ∃ t, PDSs (cxOf CX0 P w K mg base ["_law_parts", "_law_others"] "_law_same_deep" (defScope s_law_same_deep) f cdv A outer s H E).nox W0 (defBody s_law_same_deep) t T_law_same_deep := by
  have nd := sc_law_same_deep.nd
  have HP : PassesOwn (model P w) (A.deeper (envOfC "_law_same_deep" (defScope s_law_same_deep) s.heap.objs.size f cdv)) (envOfC "_law_same_deep" (defScope s_law_same_deep) s.heap.objs.size f cdv) (fun _ _ => False) := PassesOwn.never
  exact ⟨_, (b_cons (s_if (PDW.toT (w_or (t_cmp (op_neA hr.units) op2_eq (PDO.toQ (o_ix (q_v 0) (PDE.q e_int))) (PDO.toQ (o_ix (q_v 1) (PDE.q e_int)))) (w_or1 (t_cmp (op_neA hr.units) op2_eq (PDO.toQ (o_call F_law_entries hr (by decide) (a_cons (e_v 0) a_nil))) (PDO.toQ (o_call F_law_entries hr (by decide) (a_cons (e_v 1) a_nil)))))))
      (b_one (s_ret (PDE.toO e_bl)))
      b_nil)
      (b_one (s_ret (o_and (PDO.toE (o_cmp (op_eqA hr.units) op2_eq (PDO.toQ (o_cb (cr_sortA (hu64 hr)) cl_sortA Z.sorted_ (by decide +kernel) (aq_cons (PDO.toQ (o_ct call_list_of cl_list Z.list_ (by decide +kernel) (aq_cons (PDO.toQ (o_ix (q_v 0) (PDE.q e_int))) aq_nil))) aq_nil))) (PDO.toQ (o_cb (cr_sortA (hu64 hr)) cl_sortA Z.sorted_ (by decide +kernel) (aq_cons (PDO.toQ (o_ct call_list_of cl_list Z.list_ (by decide +kernel) (aq_cons (PDO.toQ (o_ix (q_v 1) (PDE.q e_int))) aq_nil))) aq_nil))))) (o_one (o_cmp (op_eqA hr.units) op2_eq (PDO.toQ (o_cb (cr_sortA (hu64 hr)) cl_sortA Z.sorted_ (by decide +kernel) (aq_cons (PDO.toQ (o_ct call_list_of cl_list Z.list_ (by decide +kernel) (aq_cons (PDO.toQ (o_ix (q_v 0) (PDE.q e_int))) aq_nil))) aq_nil))) (PDO.toQ (o_cb (cr_sortA (hu64 hr)) cl_sortA Z.sorted_ (by decide +kernel) (aq_cons (PDO.toQ (o_ct call_list_of cl_list Z.list_ (by decide +kernel) (aq_cons (PDO.toQ (o_ix (q_v 1) (PDE.q e_int))) aq_nil))) aq_nil)))))))))⟩
theorem ok_law_same_deep (Z : Bt mg) (F_law_entries : Fp P w K mg base 1 "_law_entries" m_law_entries) (D : Df K mg "_law_same_deep" s_law_same_deep ["_law_parts", "_law_others"]) : Fp P w K mg base 2 "_law_same_deep" m_law_same_deep :=
  okP D sc_law_same_deep len_law_same_deep mono_law_same_deep fun f cdv A outer s H E hr => let ⟨t, h⟩ := tm_law_same_deep Z F_law_entries f cdv A outer s H E hr; ⟨t, T_law_same_deep, h, rd_law_same_deep⟩
theorem sc_law_retold : FnScope ["_law_store_here", "_law_parts", "_law_ways", "_law_row"] ["_law_store_here", "_law_parts"] (defScope s_law_retold) := ⟨rfl, rfl, rfl, by decide +kernel, rfl, by decide +kernel, by decide +kernel⟩
theorem tm_law_retold (Z : Bt mg) (F_law_mixed : Fs P w K mg base 4 "_law_mixed" m_law_mixed) (F_law_take : Fs P w K mg base 3 "_law_take" m_law_take) (f : Addr) (cdv : Value) (A : Around) (outer : List Env) (s : Shared) (H : Hp) (E : XK) (hr : Room 4 (A.deeper (envOfC "_law_retold" (defScope s_law_retold) s.heap.objs.size f cdv))) :
    ∃ t, PDSs (cxOf CX0 P w K mg base ["_law_store_here", "_law_parts", "_law_ways", "_law_row"] "_law_retold" (defScope s_law_retold) f cdv A outer s H E).nox W0 (defBody s_law_retold) t T_law_retold := by
  have nd := sc_law_retold.nd
  have HP : PassesOwn (model P w) (A.deeper (envOfC "_law_retold" (defScope s_law_retold) s.heap.objs.size f cdv)) (envOfC "_law_retold" (defScope s_law_retold) s.heap.objs.size f cdv) (fun _ _ => False) := PassesOwn.never
  exact ⟨_, (b_cons (s_set 2 nd (o_lst a_nil))
      (b_cons (s_for HP (i_seq (PDO.toE (o_callS 0 F_law_mixed hr (by decide) (a_cons (PDO.toE (o_ix (q_v 1) (PDE.q e_int))) a_nil)))) (g_n 3 nd)
      (b_cons (s_if (t_cmp (op_eqA hr.units) op2_eq (PDO.toQ (o_callS 0 F_law_take hr (by decide) (a_cons e_int a_nil))) (PDE.q e_int))
      (b_one (s_set 3 nd (PDE.toO (e_tup (a_cons (PDO.toE (o_ix (q_v 3) (PDE.q e_int))) (a_cons (PDO.toE (o_ix (q_v 3) (PDE.q e_int))) (a_cons (PDO.toE (o_ix (q_v 3) (PDE.q e_int))) (a_cons (PDO.toE (o_ix (q_v 3) (PDE.q e_int))) a_nil))))))))
      b_nil)
      (b_one (s_app 2 (e_v 3)))))
      (b_one (s_ret (PDE.toO (e_tup (a_cons (PDO.toE (o_callS 0 F_law_mixed hr (by decide) (a_cons (PDO.toE (o_ix (q_v 1) (PDE.q e_int))) a_nil))) (a_cons (e_v 2) (a_cons (PDO.toE (o_callS 0 F_law_mixed hr (by decide) (a_cons (PDO.toE (o_ix (q_v 1) (PDE.q e_int))) a_nil))) (a_cons (PDO.toE (o_ix (q_v 1) (PDE.q e_int))) a_nil))))))))))⟩
theorem ok_law_retold (Z : Bt mg) (F_law_mixed : Fs P w K mg base 4 "_law_mixed" m_law_mixed) (F_law_take : Fs P w K mg base 3 "_law_take" m_law_take) (D : Df K mg "_law_retold" s_law_retold ["_law_store_here", "_law_parts"]) : Fs P w K mg base 5 "_law_retold" m_law_retold :=
  okS (N := ["_law_parts", "_law_ways", "_law_row"]) D sc_law_retold len_law_retold mono_law_retold fun f cdv A outer s H E hr => let ⟨t, h⟩ := tm_law_retold Z F_law_mixed F_law_take f cdv A outer s H E hr; ⟨t, T_law_retold, h, rd_law_retold⟩
theorem sc_law_deep_lines : FnScope ["_law_parts", "_law_out", "_law_name", "_law_row"] ["_law_parts"] (defScope s_law_deep_lines) := ⟨rfl, rfl, rfl, by decide +kernel, rfl, by decide +kernel, by decide +kernel⟩
theorem tm_law_deep_lines (Z : Bt mg) (F_law_entries : Fp P w K mg base 1 "_law_entries" m_law_entries) (f : Addr) (cdv : Value) (A : Around) (outer : List Env) (s : Shared) (H : Hp) (E : XK) (hr : Room 1 (A.deeper (envOfC "_law_deep_lines" (defScope s_law_deep_lines) s.heap.objs.size f cdv))) :
    ∃ t, PDSs (cxOf CX0 P w K mg base ["_law_parts", "_law_out", "_law_name", "_law_row"] "_law_deep_lines" (defScope s_law_deep_lines) f cdv A outer s H E).nox W0 (defBody s_law_deep_lines) t T_law_deep_lines := by
  have nd := sc_law_deep_lines.nd
  have HP : PassesOwn (model P w) (A.deeper (envOfC "_law_deep_lines" (defScope s_law_deep_lines) s.heap.objs.size f cdv)) (envOfC "_law_deep_lines" (defScope s_law_deep_lines) s.heap.objs.size f cdv) (fun _ _ => False) := PassesOwn.never
  exact ⟨_, (b_cons (s_set 1 nd (o_lst (a_cons (PDO.toE (o_add (PDE.q e_str) (PDO.toQ (o_ct call_str_int cl_str Z.str_ (by decide +kernel) (aq_cons (PDO.toQ (o_ix (q_v 0) (PDE.q e_int))) aq_nil))))) a_nil)))
      (b_cons (s_for HP (i_seq (PDO.toE (o_cb (cr_sortA (hu64 hr)) cl_sortA Z.sorted_ (by decide +kernel) (aq_cons (PDO.toQ (o_ct call_list_of cl_list Z.list_ (by decide +kernel) (aq_cons (PDO.toQ (o_ix (q_v 0) (PDE.q e_int))) aq_nil))) aq_nil)))) (g_n 2 nd)
      (b_one (s_app 1 (PDO.toE (o_add (PDE.q e_str) (q_v 2))))))
      (b_cons (s_for HP (i_seq (PDO.toE (o_call F_law_entries hr (by decide) (a_cons (e_v 0) a_nil)))) (g_n 3 nd)
      (b_one (s_app 1 (PDO.toE (o_add (PDO.toQ (o_add (PDO.toQ (o_add (PDO.toQ (o_add (PDO.toQ (o_add (PDO.toQ (o_add (PDO.toQ (o_add (PDE.q e_str) (PDO.toQ (o_ix (q_v 3) (PDE.q e_int))))) (PDE.q e_str))) (PDO.toQ (o_ix (q_v 3) (PDE.q e_int))))) (PDE.q e_str))) (PDO.toQ (o_ix (q_v 3) (PDE.q e_int))))) (PDE.q e_str))) (PDO.toQ (o_ct call_str_int cl_str Z.str_ (by decide +kernel) (aq_cons (PDO.toQ (o_ix (q_v 3) (PDE.q e_int))) aq_nil))))))))
      (b_cons (s_for HP (i_seq (PDO.toE (o_cb (cr_sortA (hu64 hr)) cl_sortA Z.sorted_ (by decide +kernel) (aq_cons (PDO.toQ (o_ct call_list_of cl_list Z.list_ (by decide +kernel) (aq_cons (PDO.toQ (o_ix (q_v 0) (PDE.q e_int))) aq_nil))) aq_nil)))) (g_n 3 nd)
      (b_one (s_app 1 (PDO.toE (o_add (PDO.toQ (o_add (PDO.toQ (o_add (PDE.q e_str) (PDO.toQ (o_ix (q_v 3) (PDE.q e_int))))) (PDE.q e_str))) (PDO.toQ (o_ix (q_v 3) (PDE.q e_int))))))))
      (b_one (s_ret (o_v 1)))))))⟩
theorem ok_law_deep_lines (Z : Bt mg) (F_law_entries : Fp P w K mg base 1 "_law_entries" m_law_entries) (D : Df K mg "_law_deep_lines" s_law_deep_lines ["_law_parts"]) : Fp P w K mg base 2 "_law_deep_lines" m_law_deep_lines :=
  okP D sc_law_deep_lines len_law_deep_lines mono_law_deep_lines fun f cdv A outer s H E hr => let ⟨t, h⟩ := tm_law_deep_lines Z F_law_entries f cdv A outer s H E hr; ⟨t, T_law_deep_lines, h, rd_law_deep_lines⟩
theorem sc_law_make : FnScope ["_law_parts"] ["_law_parts"] (defScope s_law_make) := ⟨rfl, rfl, rfl, by decide +kernel, rfl, by decide +kernel, by decide +kernel⟩
theorem tm_law_make (Z : Bt mg) (FK_Deep_3_rope : Fk P w K mg base 7 "Deep" 3 ["rope"] [] [] m_Deep_init) (f : Addr) (cdv : Value) (A : Around) (outer : List Env) (s : Shared) (H : Hp) (E : XK) (hr : Room 8 (A.deeper (envOfC "_law_make" (defScope s_law_make) s.heap.objs.size f cdv))) :
    ∃ t, PDSs (cxOf CX0 P w K mg base ["_law_parts"] "_law_make" (defScope s_law_make) f cdv A outer s H E).nox W0 (defBody s_law_make) t T_law_make := by
  have nd := sc_law_make.nd
  have HP : PassesOwn (model P w) (A.deeper (envOfC "_law_make" (defScope s_law_make) s.heap.objs.size f cdv)) (envOfC "_law_make" (defScope s_law_make) s.heap.objs.size f cdv) (fun _ _ => False) := PassesOwn.never
  exact ⟨_, (b_one (s_ret (o_mkn FK_Deep_3_rope hr (by decide) (PDQA.m (aq_cons (PDO.toQ (o_ct call_list_of cl_list Z.list_ (by decide +kernel) (aq_cons (PDO.toQ (o_ix (q_v 0) (PDE.q e_int))) aq_nil))) (aq_cons (PDO.toQ (o_ct call_list_of cl_list Z.list_ (by decide +kernel) (aq_cons (PDO.toQ (o_ix (q_v 0) (PDE.q e_int))) aq_nil))) (aq_cons (PDO.toQ (o_ct call_list_of cl_list Z.list_ (by decide +kernel) (aq_cons (PDO.toQ (o_ix (q_v 0) (PDE.q e_int))) aq_nil))) aq_nil)))) (k_cons (PDO.toQ (o_ix (q_v 0) (PDE.q e_int))) k_nil))))⟩
theorem ok_law_make (Z : Bt mg) (FK_Deep_3_rope : Fk P w K mg base 7 "Deep" 3 ["rope"] [] [] m_Deep_init) (D : Df K mg "_law_make" s_law_make ["_law_parts"]) : Fp P w K mg base 9 "_law_make" m_law_make :=
  okP D sc_law_make len_law_make mono_law_make fun f cdv A outer s H E hr => let ⟨t, h⟩ := tm_law_make Z FK_Deep_3_rope f cdv A outer s H E hr; ⟨t, T_law_make, h, rd_law_make⟩
theorem sc_law_is_deep : FnScope ["_law_deep", "_law_parts", "_law_homes", "_law_who"] ["_law_deep", "_law_parts"] (defScope s_law_is_deep) := ⟨rfl, rfl, rfl, by decide +kernel, rfl, by decide +kernel, by decide +kernel⟩
theorem tm_law_is_deep (Z : Bt mg) (CY : Cy K cyL) (GC_Deep : ∀ C, cAt K "Deep" C → mg "Deep" = some (.ref C)) (F_Deep_chambers : Fm P w K mg base 1 "Deep" "chambers" fl_Deep [] m_Deep_chambers) (F_Deep_delvers : Fm P w K mg base 1 "Deep" "delvers" fl_Deep [] m_Deep_delvers) (F_Deep_entries : Fm P w K mg base 1 "Deep" "entries" fl_Deep [] m_Deep_entries) (F_Deep_home : Fm P w K mg base 4 "Deep" "home" fl_Deep [] m_Deep_home) (F_Deep_rope : Fr P w K mg base 1 "Deep" "rope" m_Deep_rope) (F_law_entries : Fp P w K mg base 1 "_law_entries" m_law_entries) (F_law_known : Fp P w K mg base 1 "_law_known" m_law_known) (F_law_same : Fp P w K mg base 8 "_law_same" m_law_same) (f : Addr) (cdv : Value) (A : Around) (outer : List Env) (s : Shared) (H : Hp) (E : XK) (hr : Room 8 (A.deeper (envOfC "_law_is_deep" (defScope s_law_is_deep) s.heap.objs.size f cdv))) :
    ∃ t, PDSs (cxOf CX0 P w K mg base ["_law_deep", "_law_parts", "_law_homes", "_law_who"] "_law_is_deep" (defScope s_law_is_deep) f cdv A outer s H E).nox W0 (defBody s_law_is_deep) t T_law_is_deep := by
  have nd := sc_law_is_deep.nd
  have HP : PassesOwn (model P w) (A.deeper (envOfC "_law_is_deep" (defScope s_law_is_deep) s.heap.objs.size f cdv)) (envOfC "_law_is_deep" (defScope s_law_is_deep) s.heap.objs.size f cdv) (fun _ _ => False) := PassesOwn.never
  exact ⟨_, (b_cons (s_if (PDW.toT (w_or (t_not (t_val (o_isO CY Z.isinstance_ GC_Deep (q_v 0)))) (w_or1 (t_not (t_val (o_call F_law_same hr (by decide) (a_cons (PDO.toE (o_prop F_Deep_rope hr (by decide) (q_v 0))) (a_cons (PDO.toE (o_ix (q_v 1) (PDE.q e_int))) a_nil))))))))
      (b_one (s_ret (PDE.toO e_bl)))
      b_nil)
      (b_cons (s_if (PDW.toT (w_or (t_not (t_val (o_call F_law_same hr (by decide) (a_cons (PDO.toE (o_meth0 F_Deep_chambers hr (by decide) (q_v 0))) (a_cons (PDO.toE (o_call F_law_known hr (by decide) (a_cons (e_v 1) (a_cons e_int a_nil)))) a_nil))))) (w_or1 (t_not (t_val (o_call F_law_same hr (by decide) (a_cons (PDO.toE (o_meth0 F_Deep_entries hr (by decide) (q_v 0))) (a_cons (PDO.toE (o_call F_law_entries hr (by decide) (a_cons (e_v 1) a_nil))) a_nil))))))))
      (b_one (s_ret (PDE.toO e_bl)))
      b_nil)
      (b_cons (s_frz [0] (s_setLc 2 [("_law_who", 3)] nd (i_seq (PDO.toE (o_call F_law_known hr (by decide) (a_cons (e_v 1) (a_cons e_int a_nil))))) (by show blkC ["_law_deep", "_law_parts", "_law_homes", "_law_who"] (defScope s_law_is_deep) _ _ = true; decide +kernel) (fun _ _ _ _ _ => (g_n 3 nd)) (fun _ _ _ _ _ => PDTs.as ts_nil (by first | rfl | (dsimp only [Cx.blk]; done) | (dsimp only [Cx.blk]; rfl))) (fun _ _ _ _ _ => PDE.as (e_tup (a_cons (e_v 3) (a_cons (PDO.toE (o_meth F_Deep_home hr (by decide) (q_v 0) (PDQA.m (aq_cons (q_v 3) aq_nil)))) a_nil))) (by first | rfl | (dsimp only [Cx.blk]; done) | (dsimp only [Cx.blk]; rfl))) (by decide) (sw_true rfl rfl rfl (by decide +kernel))))
      (b_one (s_ret (o_and (PDO.toE (o_call F_law_same hr (by decide) (a_cons (PDO.toE (o_meth0 F_Deep_delvers hr (by decide) (q_v 0))) (a_cons (PDO.toE (o_call F_law_known hr (by decide) (a_cons (e_v 1) (a_cons e_int a_nil)))) a_nil)))) (o_one (o_call F_law_same hr (by decide) (a_cons (e_v 2) (a_cons (PDO.toE (o_cb (cr_sortA (hu64 hr)) cl_sortA Z.sorted_ (by decide +kernel) (aq_cons (PDO.toQ (o_ct call_list_of cl_list Z.list_ (by decide +kernel) (aq_cons (PDO.toQ (o_ix (q_v 1) (PDE.q e_int))) aq_nil))) aq_nil))) a_nil))))))))))⟩
theorem ok_law_is_deep (Z : Bt mg) (CY : Cy K cyL) (GC_Deep : ∀ C, cAt K "Deep" C → mg "Deep" = some (.ref C)) (F_Deep_chambers : Fm P w K mg base 1 "Deep" "chambers" fl_Deep [] m_Deep_chambers) (F_Deep_delvers : Fm P w K mg base 1 "Deep" "delvers" fl_Deep [] m_Deep_delvers) (F_Deep_entries : Fm P w K mg base 1 "Deep" "entries" fl_Deep [] m_Deep_entries) (F_Deep_home : Fm P w K mg base 4 "Deep" "home" fl_Deep [] m_Deep_home) (F_Deep_rope : Fr P w K mg base 1 "Deep" "rope" m_Deep_rope) (F_law_entries : Fp P w K mg base 1 "_law_entries" m_law_entries) (F_law_known : Fp P w K mg base 1 "_law_known" m_law_known) (F_law_same : Fp P w K mg base 8 "_law_same" m_law_same) (D : Df K mg "_law_is_deep" s_law_is_deep ["_law_deep", "_law_parts"]) : Fp P w K mg base 9 "_law_is_deep" m_law_is_deep :=
  okP D sc_law_is_deep len_law_is_deep mono_law_is_deep fun f cdv A outer s H E hr => let ⟨t, h⟩ := tm_law_is_deep Z CY GC_Deep F_Deep_chambers F_Deep_delvers F_Deep_entries F_Deep_home F_Deep_rope F_law_entries F_law_known F_law_same f cdv A outer s H E hr; ⟨t, T_law_is_deep, h, rd_law_is_deep⟩
theorem sc_law_good_deep : FnScope ["_law_store_here", "_law_names_here", "_law_spots", "_law_many", "_law_ways", "_law_name", "_law_at", "_law_team", "_law_crew"] ["_law_store_here"] (defScope s_law_good_deep) := ⟨rfl, rfl, rfl, by decide +kernel, rfl, by decide +kernel, by decide +kernel⟩
theorem tm_law_good_deep (Z : Bt mg) (F_law_names : Fs P w K mg base 6 "_law_names" m_law_names) (F_law_pick : Fs P w K mg base 4 "_law_pick" m_law_pick) (F_law_some : Fs P w K mg base 4 "_law_some" m_law_some) (F_law_take : Fs P w K mg base 3 "_law_take" m_law_take) (f : Addr) (cdv : Value) (A : Around) (outer : List Env) (s : Shared) (H : Hp) (E : XK) (hr : Room 6 (A.deeper (envOfC "_law_good_deep" (defScope s_law_good_deep) s.heap.objs.size f cdv))) :
    ∃ t, PDSs (cxOf CX0 P w K mg base ["_law_store_here", "_law_names_here", "_law_spots", "_law_many", "_law_ways", "_law_name", "_law_at", "_law_team", "_law_crew"] "_law_good_deep" (defScope s_law_good_deep) f cdv A outer s H E).nox W0 (defBody s_law_good_deep) t T_law_good_deep := by
  have nd := sc_law_good_deep.nd
  have HP : PassesOwn (model P w) (A.deeper (envOfC "_law_good_deep" (defScope s_law_good_deep) s.heap.objs.size f cdv)) (envOfC "_law_good_deep" (defScope s_law_good_deep) s.heap.objs.size f cdv) (fun _ _ => False) := PassesOwn.never
  exact ⟨_, (b_cons (s_set 1 nd (o_callS 0 F_law_names hr (by decide) (a_cons e_int a_nil)))
      (b_cons (s_set 2 nd (o_sl (q_v 1) p_no (p_some (PDO.toQ (o_callS 0 F_law_some hr (by decide) (a_cons e_int (a_cons e_int a_nil)))))))
      (b_cons (s_set 3 nd (o_cb call_len cl_len Z.len_ PySem.boot_len (aq_cons (q_v 2) aq_nil)))
      (b_cons (s_set 4 nd (o_lst a_nil))
      (b_cons (s_for HP (i_seq (PDO.toE (o_callS 0 F_law_names hr (by decide) (a_cons (PDO.toE (o_mul (PDO.toQ (o_callS 0 F_law_some hr (by decide) (a_cons e_int (a_cons e_int a_nil)))) (PDO.toQ (o_ct call_int1 cl_int Z.int_ (by decide +kernel) (aq_cons (PDO.toQ (o_cmp op_gtD op2_ord (q_v 3) (PDE.q e_int))) aq_nil))))) a_nil)))) (g_n 5 nd)
      (b_cons (s_set 6 nd (o_callS 0 F_law_take hr (by decide) (a_cons (e_v 3) a_nil)))
      (b_one (s_app 4 (e_tup (a_cons (e_v 5) (a_cons (PDO.toE (o_ix (q_v 2) (q_v 6))) (a_cons (PDO.toE (o_ix (q_v 2) (PDO.toQ (o_sub (PDO.toQ (o_sub (q_v 6) (PDE.q e_int))) (PDO.toQ (o_callS 0 F_law_take hr (by decide) (a_cons (PDO.toE (o_sub (q_v 3) (PDE.q e_int))) a_nil))))))) (a_cons (PDO.toE (o_callS 0 F_law_some hr (by decide) (a_cons e_int (a_cons e_int a_nil)))) a_nil)))))))))
      (b_cons (s_set 7 nd (o_callS 0 F_law_names hr (by decide) (a_cons (PDO.toE (o_mul (PDO.toQ (o_callS 0 F_law_some hr (by decide) (a_cons e_int (a_cons e_int a_nil)))) (PDO.toQ (o_ct call_int1 cl_int Z.int_ (by decide +kernel) (aq_cons (PDO.toQ (o_cmp op_gtD op2_ord (q_v 3) (PDE.q e_int))) aq_nil))))) a_nil)))
      (b_cons (s_frz [2] (s_setLc 8 [("_law_name", 5)] nd (i_seq (e_v 7)) (by show blkC ["_law_store_here", "_law_names_here", "_law_spots", "_law_many", "_law_ways", "_law_name", "_law_at", "_law_team", "_law_crew"] (defScope s_law_good_deep) _ _ = true; decide +kernel) (fun _ _ _ _ _ => (g_n 5 nd)) (fun _ _ _ _ _ => PDTs.as ts_nil (by first | rfl | (dsimp only [Cx.blk]; done) | (dsimp only [Cx.blk]; rfl))) (fun _ _ _ _ _ => PDE.as (e_tup (a_cons (e_v 5) (a_cons (PDO.toE (o_callS 0 F_law_pick hr (by decide) (a_cons (e_v 2) a_nil))) a_nil))) (by first | rfl | (dsimp only [Cx.blk]; done) | (dsimp only [Cx.blk]; rfl))) (by decide) (sw_true rfl rfl rfl (by decide +kernel))))
      (b_one (s_ret (PDE.toO (e_tup (a_cons (e_v 2) (a_cons (e_v 4) (a_cons (e_v 8) (a_cons (PDO.toE (o_callS 0 F_law_some hr (by decide) (a_cons e_int (a_cons e_int a_nil)))) a_nil)))))))))))))))⟩
theorem ok_law_good_deep (Z : Bt mg) (F_law_names : Fs P w K mg base 6 "_law_names" m_law_names) (F_law_pick : Fs P w K mg base 4 "_law_pick" m_law_pick) (F_law_some : Fs P w K mg base 4 "_law_some" m_law_some) (F_law_take : Fs P w K mg base 3 "_law_take" m_law_take) (D : Df K mg "_law_good_deep" s_law_good_deep ["_law_store_here"]) : Fs P w K mg base 7 "_law_good_deep" m_law_good_deep :=
  okS (N := ["_law_names_here", "_law_spots", "_law_many", "_law_ways", "_law_name", "_law_at", "_law_team", "_law_crew"]) D sc_law_good_deep len_law_good_deep mono_law_good_deep fun f cdv A outer s H E hr => let ⟨t, h⟩ := tm_law_good_deep Z F_law_names F_law_pick F_law_some F_law_take f cdv A outer s H E hr; ⟨t, T_law_good_deep, h, rd_law_good_deep⟩
theorem sc_law_read_lines : FnScope ["_law_lines", "_law_spots", "_law_ways", "_law_crew", "_law_line", "_law_words"] ["_law_lines"] (defScope s_law_read_lines) := ⟨rfl, rfl, rfl, by decide +kernel, rfl, by decide +kernel, by decide +kernel⟩
theorem tm_law_read_lines (Z : Bt mg) (f : Addr) (cdv : Value) (A : Around) (outer : List Env) (s : Shared) (H : Hp) (E : XK) (hr : Room 0 (A.deeper (envOfC "_law_read_lines" (defScope s_law_read_lines) s.heap.objs.size f cdv))) :
    ∃ t, PDSs (cxOf CX0 P w K mg base ["_law_lines", "_law_spots", "_law_ways", "_law_crew", "_law_line", "_law_words"] "_law_read_lines" (defScope s_law_read_lines) f cdv A outer s H E).nox W0 (defBody s_law_read_lines) t T_law_read_lines := by
  have nd := sc_law_read_lines.nd
  have HP : PassesOwn (model P w) (A.deeper (envOfC "_law_read_lines" (defScope s_law_read_lines) s.heap.objs.size f cdv)) (envOfC "_law_read_lines" (defScope s_law_read_lines) s.heap.objs.size f cdv) (fun _ _ => False) := PassesOwn.never
  exact ⟨_, (b_cons (s_set 1 nd (o_lst a_nil))
      (b_cons (s_set 2 nd (o_lst a_nil))
      (b_cons (s_set 3 nd (o_lst a_nil))
      (b_cons (s_for HP (i_seq (e_v 0)) (g_n 4 nd)
      (b_cons (s_set 5 nd (o_split (e_v 4) (PDE.q e_str)))
      (b_one (s_if (PDW.toT (w_and (t_cmp (op_eqA hr.units) op2_eq (PDO.toQ (o_ix (q_v 5) (PDE.q e_int))) (PDE.q e_str)) (w_and (t_cmp (op_eqA hr.units) op2_eq (PDO.toQ (o_cb call_len cl_len Z.len_ PySem.boot_len (aq_cons (q_v 5) aq_nil))) (PDE.q e_int)) (w_and1 (t_cmp (op_eqA hr.units) op2_eq (PDO.toQ (o_add (q_v 2) (q_v 3))) (PDO.toQ (o_lst a_nil)))))))
      (b_one (s_app 1 (PDO.toE (o_ix (q_v 5) (PDE.q e_int)))))
      (b_one (s_if (PDW.toT (w_and (t_cmp (op_eqA hr.units) op2_eq (PDO.toQ (o_ix (q_v 5) (PDE.q e_int))) (PDE.q e_str)) (w_and (t_cmp (op_eqA hr.units) op2_eq (PDO.toQ (o_cb call_len cl_len Z.len_ PySem.boot_len (aq_cons (q_v 5) aq_nil))) (PDE.q e_int)) (w_and1 (t_cmp (op_eqA hr.units) op2_eq (q_v 3) (PDO.toQ (o_lst a_nil)))))))
      (b_one (s_app 2 (e_tup (a_cons (PDO.toE (o_ix (q_v 5) (PDE.q e_int))) (a_cons (PDO.toE (o_ix (q_v 5) (PDE.q e_int))) (a_cons (PDO.toE (o_ix (q_v 5) (PDE.q e_int))) (a_cons (PDO.toE (o_find e_str (PDO.toQ (o_ix (q_v 5) (PDE.q e_int))))) a_nil)))))))
      (b_one (s_if (PDW.toT (w_and (t_cmp (op_eqA hr.units) op2_eq (PDO.toQ (o_ix (q_v 5) (PDE.q e_int))) (PDE.q e_str)) (w_and1 (t_cmp (op_eqA hr.units) op2_eq (PDO.toQ (o_cb call_len cl_len Z.len_ PySem.boot_len (aq_cons (q_v 5) aq_nil))) (PDE.q e_int)))))
      (b_one (s_app 3 (e_tup (a_cons (PDO.toE (o_ix (q_v 5) (PDE.q e_int))) (a_cons (PDO.toE (o_ix (q_v 5) (PDE.q e_int))) a_nil)))))
      (b_one (s_ret (PDE.toO e_non)))))))))))
      (b_one (s_ret (PDE.toO (e_tup (a_cons (e_v 1) (a_cons (e_v 2) (a_cons (e_v 3) a_nil)))))))))))⟩
theorem ok_law_read_lines (Z : Bt mg) (D : Df K mg "_law_read_lines" s_law_read_lines ["_law_lines"]) : Fp P w K mg base 1 "_law_read_lines" m_law_read_lines :=
  okP D sc_law_read_lines len_law_read_lines mono_law_read_lines fun f cdv A outer s H E hr => let ⟨t, h⟩ := tm_law_read_lines Z f cdv A outer s H E hr; ⟨t, T_law_read_lines, h, rd_law_read_lines⟩
theorem sc_law_right : FnScope ["_law_text", "_law_parts", "_law_lines"] ["_law_text", "_law_parts"] (defScope s_law_right) := ⟨rfl, rfl, rfl, by decide +kernel, rfl, by decide +kernel, by decide +kernel⟩
theorem tm_law_right (Z : Bt mg) (F_law_deep_lines : Fp P w K mg base 2 "_law_deep_lines" m_law_deep_lines) (F_law_entries : Fp P w K mg base 1 "_law_entries" m_law_entries) (F_law_known : Fp P w K mg base 1 "_law_known" m_law_known) (F_law_read_lines : Fp P w K mg base 1 "_law_read_lines" m_law_read_lines) (F_law_same : Fp P w K mg base 8 "_law_same" m_law_same) (f : Addr) (cdv : Value) (A : Around) (outer : List Env) (s : Shared) (H : Hp) (E : XK) (hr : Room 8 (A.deeper (envOfC "_law_right" (defScope s_law_right) s.heap.objs.size f cdv))) :
    ∃ t, PDSs (cxOf CX0 P w K mg base ["_law_text", "_law_parts", "_law_lines"] "_law_right" (defScope s_law_right) f cdv A outer s H E).nox W0 (defBody s_law_right) t T_law_right := by
  have nd := sc_law_right.nd
  have HP : PassesOwn (model P w) (A.deeper (envOfC "_law_right" (defScope s_law_right) s.heap.objs.size f cdv)) (envOfC "_law_right" (defScope s_law_right) s.heap.objs.size f cdv) (fun _ _ => False) := PassesOwn.never
  exact ⟨_, (b_cons (s_if (t_not (t_val (o_isa .str Z (q_v 0))))
      (b_one (s_ret (PDE.toO e_bl)))
      b_nil)
      (b_cons (s_set 2 nd (o_split (e_v 0) (PDE.q e_str)))
      (b_cons (s_if (PDW.toT (w_or (t_cmp (op_neA hr.units) op2_eq (PDO.toQ (o_cb call_len cl_len Z.len_ PySem.boot_len (aq_cons (q_v 2) aq_nil))) (PDO.toQ (o_add (PDO.toQ (o_add (PDO.toQ (o_add (PDE.q e_int) (PDO.toQ (o_cb call_len cl_len Z.len_ PySem.boot_len (aq_cons (PDO.toQ (o_ix (q_v 1) (PDE.q e_int))) aq_nil))))) (PDO.toQ (o_cb call_len cl_len Z.len_ PySem.boot_len (aq_cons (PDO.toQ (o_ix (q_v 1) (PDE.q e_int))) aq_nil))))) (PDO.toQ (o_cb call_len cl_len Z.len_ PySem.boot_len (aq_cons (PDO.toQ (o_ix (q_v 1) (PDE.q e_int))) aq_nil)))))) (w_or1 (t_cmp (op_neA hr.units) op2_eq (PDO.toQ (o_ix (q_v 2) (PDE.q e_int))) (PDO.toQ (o_add (PDE.q e_str) (PDO.toQ (o_ct call_str_int cl_str Z.str_ (by decide +kernel) (aq_cons (PDO.toQ (o_ix (q_v 1) (PDE.q e_int))) aq_nil)))))))))
      (b_one (s_ret (PDE.toO e_bl)))
      b_nil)
      (b_cons (s_if (t_not (t_val (o_call F_law_same hr (by decide) (a_cons (PDO.toE (o_call F_law_read_lines hr (by decide) (a_cons (PDO.toE (o_sl (q_v 2) (p_some (PDE.q e_int)) p_no)) a_nil))) (a_cons (e_tup (a_cons (PDO.toE (o_call F_law_known hr (by decide) (a_cons (e_v 1) (a_cons e_int a_nil)))) (a_cons (PDO.toE (o_call F_law_entries hr (by decide) (a_cons (e_v 1) a_nil))) (a_cons (PDO.toE (o_cb (cr_sortA (hu64 hr)) cl_sortA Z.sorted_ (by decide +kernel) (aq_cons (PDO.toQ (o_ct call_list_of cl_list Z.list_ (by decide +kernel) (aq_cons (PDO.toQ (o_ix (q_v 1) (PDE.q e_int))) aq_nil))) aq_nil))) a_nil)))) a_nil)))))
      (b_one (s_ret (PDE.toO e_bl)))
      b_nil)
      (b_one (s_ret (o_cmp (op_eqA hr.units) op2_eq (q_v 0) (PDO.toQ (o_join e_str (PDO.toQ (o_call F_law_deep_lines hr (by decide) (a_cons (e_v 1) a_nil))))))))))))⟩
theorem ok_law_right (Z : Bt mg) (F_law_deep_lines : Fp P w K mg base 2 "_law_deep_lines" m_law_deep_lines) (F_law_entries : Fp P w K mg base 1 "_law_entries" m_law_entries) (F_law_known : Fp P w K mg base 1 "_law_known" m_law_known) (F_law_read_lines : Fp P w K mg base 1 "_law_read_lines" m_law_read_lines) (F_law_same : Fp P w K mg base 8 "_law_same" m_law_same) (D : Df K mg "_law_right" s_law_right ["_law_text", "_law_parts"]) : Fp P w K mg base 9 "_law_right" m_law_right :=
  okP D sc_law_right len_law_right mono_law_right fun f cdv A outer s H E hr => let ⟨t, h⟩ := tm_law_right Z F_law_deep_lines F_law_entries F_law_known F_law_read_lines F_law_same f cdv A outer s H E hr; ⟨t, T_law_right, h, rd_law_right⟩
theorem sc_law : FnScope ["_law_script", "_law_store_here", "_law_parts", "_law_others", "_law_more", "_law_rows", "_law_deeps", "_law_texts", "_law_k", "_law_j", "_law_row", "_law_deep"] ["_law_script"] (defScope s_law) := ⟨rfl, rfl, rfl, by decide +kernel, rfl, by decide +kernel, by decide +kernel⟩
theorem tm_law (Z : Bt mg) (F_law_fresh : Fp P w K mg base 2 "_law_fresh" m_law_fresh) (F_law_good_deep : Fs P w K mg base 7 "_law_good_deep" m_law_good_deep) (F_law_is_deep : Fp P w K mg base 9 "_law_is_deep" m_law_is_deep) (F_law_make : Fp P w K mg base 9 "_law_make" m_law_make) (F_law_retold : Fs P w K mg base 5 "_law_retold" m_law_retold) (F_law_right : Fp P w K mg base 9 "_law_right" m_law_right) (F_law_same : Fp P w K mg base 8 "_law_same" m_law_same) (F_law_same_deep : Fp P w K mg base 2 "_law_same_deep" m_law_same_deep) (F_law_store : Fp P w K mg base 1 "_law_store" m_law_store) (F_law_take : Fs P w K mg base 3 "_law_take" m_law_take) (F_deep_text : Fp P w K mg base 5 "deep_text" m_deep_text) (f : Addr) (cdv : Value) (A : Around) (outer : List Env) (s : Shared) (H : Hp) (E : XK) (hr : Room 9 (A.deeper (envOfC "law" (defScope s_law) s.heap.objs.size f cdv))) :
    ∃ t, PDSs (cxOf CX0 P w K mg base ["_law_script", "_law_store_here", "_law_parts", "_law_others", "_law_more", "_law_rows", "_law_deeps", "_law_texts", "_law_k", "_law_j", "_law_row", "_law_deep"] "law" (defScope s_law) f cdv A outer s H E).nox W0 (defBody s_law) t T_law := by
  have nd := sc_law.nd
  have HP : PassesOwn (model P w) (A.deeper (envOfC "law" (defScope s_law) s.heap.objs.size f cdv)) (envOfC "law" (defScope s_law) s.heap.objs.size f cdv) (fun _ _ => False) := PassesOwn.never
  exact ⟨_, (b_cons (s_setSto 1 nd (o_call F_law_store hr (by decide) (a_cons (e_v 0) a_nil)))
      (b_cons (s_set 2 nd (o_callS 1 F_law_good_deep hr (by decide) a_nil))
      (b_cons (s_set 3 nd (o_callS 1 F_law_good_deep hr (by decide) a_nil))
      (b_cons (s_set 4 nd (PDE.toO (e_tup (a_cons (PDO.toE (o_ix (q_v 2) (PDE.q e_int))) (a_cons (PDO.toE (o_ix (q_v 2) (PDE.q e_int))) (a_cons (PDO.toE (o_ix (q_v 2) (PDE.q e_int))) (a_cons (PDO.toE (o_add (PDE.q e_int) (PDO.toQ (o_callS 1 F_law_take hr (by decide) (a_cons e_int a_nil))))) a_nil)))))))
      (b_cons (s_if (PDW.toT (w_and (t_cmp op_ltD op2_ord (PDO.toQ (o_cb call_len cl_len Z.len_ PySem.boot_len (aq_cons (PDO.toQ (o_ix (q_v 2) (PDE.q e_int))) aq_nil))) (PDE.q e_int)) (w_and1 (t_cmp (op_eqA hr.units) op2_eq (PDO.toQ (o_callS 1 F_law_take hr (by decide) (a_cons e_int a_nil))) (PDE.q e_int)))))
      (b_one (s_set 4 nd (PDE.toO (e_tup (a_cons (PDO.toE (o_add (PDO.toQ (o_ix (q_v 2) (PDE.q e_int))) (PDO.toQ (o_lst (a_cons (PDO.toE (o_call F_law_fresh hr (by decide) (a_cons e_str (a_cons (PDO.toE (o_ix (q_v 2) (PDE.q e_int))) a_nil)))) a_nil))))) (a_cons (PDO.toE (o_ix (q_v 2) (PDE.q e_int))) (a_cons (PDO.toE (o_ix (q_v 2) (PDE.q e_int))) (a_cons (PDO.toE (o_ix (q_v 2) (PDE.q e_int))) a_nil))))))))
      b_nil)
      (b_cons (s_set 5 nd (o_lst (a_cons (e_v 2) (a_cons (e_v 3) (a_cons (PDO.toE (o_callS 1 F_law_retold hr (by decide) (a_cons (e_v 2) a_nil))) (a_cons (e_v 4) a_nil))))))
      (b_cons (s_setLc 6 [("_law_row", 10)] nd (i_seq (e_v 5)) (by show blkC ["_law_script", "_law_store_here", "_law_parts", "_law_others", "_law_more", "_law_rows", "_law_deeps", "_law_texts", "_law_k", "_law_j", "_law_row", "_law_deep"] (defScope s_law) _ _ = true; decide +kernel) (fun _ _ _ _ _ => (g_n 10 nd)) (fun _ _ _ _ _ => PDTs.as ts_nil (by first | rfl | (dsimp only [Cx.blk]; done) | (dsimp only [Cx.blk]; rfl))) (fun _ _ _ _ _ => PDE.as (PDO.toE (o_call F_law_make hr (by decide) (a_cons (e_v 10) a_nil))) (by first | rfl | (dsimp only [Cx.blk]; done) | (dsimp only [Cx.blk]; rfl))) (by decide) (sw_true rfl rfl rfl (by decide +kernel)))
      (b_cons (s_setLc 7 [("_law_deep", 11)] nd (i_seq (e_v 6)) (by show blkC ["_law_script", "_law_store_here", "_law_parts", "_law_others", "_law_more", "_law_rows", "_law_deeps", "_law_texts", "_law_k", "_law_j", "_law_row", "_law_deep"] (defScope s_law) _ _ = true; decide +kernel) (fun _ _ _ _ _ => (g_n 11 nd)) (fun _ _ _ _ _ => PDTs.as ts_nil (by first | rfl | (dsimp only [Cx.blk]; done) | (dsimp only [Cx.blk]; rfl))) (fun _ _ _ _ _ => PDE.as (PDO.toE (o_call F_deep_text hr (by decide) (a_cons (e_v 11) a_nil))) (by first | rfl | (dsimp only [Cx.blk]; done) | (dsimp only [Cx.blk]; rfl))) (by decide) (sw_true rfl rfl rfl (by decide +kernel)))
      (b_cons (s_for HP (i_r1 Z.range_ (PDO.toQ (o_cb call_len cl_len Z.len_ PySem.boot_len (aq_cons (q_v 5) aq_nil)))) (g_n 8 nd)
      (b_cons (s_if (PDW.toT (w_or (t_not (t_val (o_call F_law_right hr (by decide) (a_cons (PDO.toE (o_ix (q_v 7) (q_v 8))) (a_cons (PDO.toE (o_ix (q_v 5) (q_v 8))) a_nil))))) (w_or1 (t_not (t_val (o_call F_law_right hr (by decide) (a_cons (PDO.toE (o_call F_deep_text hr (by decide) (a_cons (PDO.toE (o_ix (q_v 6) (q_v 8))) a_nil))) (a_cons (PDO.toE (o_ix (q_v 5) (q_v 8))) a_nil))))))))
      (b_one (s_ret (PDE.toO e_bl)))
      b_nil)
      (b_cons (s_if (t_not (t_val (o_call F_law_is_deep hr (by decide) (a_cons (PDO.toE (o_ix (q_v 6) (q_v 8))) (a_cons (PDO.toE (o_ix (q_v 5) (q_v 8))) a_nil)))))
      (b_one (s_ret (PDE.toO e_bl)))
      b_nil)
      (b_one (s_for HP (i_r1 Z.range_ (PDO.toQ (o_cb call_len cl_len Z.len_ PySem.boot_len (aq_cons (q_v 5) aq_nil)))) (g_n 9 nd)
      (b_one (s_if (t_not (t_val (o_call F_law_same hr (by decide) (a_cons (PDO.toE (o_cmp (op_eqA hr.units) op2_eq (PDO.toQ (o_ix (q_v 7) (q_v 8))) (PDO.toQ (o_ix (q_v 7) (q_v 9))))) (a_cons (PDO.toE (o_call F_law_same_deep hr (by decide) (a_cons (PDO.toE (o_ix (q_v 5) (q_v 8))) (a_cons (PDO.toE (o_ix (q_v 5) (q_v 9))) a_nil)))) a_nil)))))
      (b_one (s_ret (PDE.toO e_bl)))
      b_nil)))))))
      (b_one (s_ret (PDE.toO e_bl))))))))))))⟩
theorem ok_law (Z : Bt mg) (F_law_fresh : Fp P w K mg base 2 "_law_fresh" m_law_fresh) (F_law_good_deep : Fs P w K mg base 7 "_law_good_deep" m_law_good_deep) (F_law_is_deep : Fp P w K mg base 9 "_law_is_deep" m_law_is_deep) (F_law_make : Fp P w K mg base 9 "_law_make" m_law_make) (F_law_retold : Fs P w K mg base 5 "_law_retold" m_law_retold) (F_law_right : Fp P w K mg base 9 "_law_right" m_law_right) (F_law_same : Fp P w K mg base 8 "_law_same" m_law_same) (F_law_same_deep : Fp P w K mg base 2 "_law_same_deep" m_law_same_deep) (F_law_store : Fp P w K mg base 1 "_law_store" m_law_store) (F_law_take : Fs P w K mg base 3 "_law_take" m_law_take) (F_deep_text : Fp P w K mg base 5 "deep_text" m_deep_text) {f : Addr} {fd : FuncData} (FF : Fun K "law" "law" s_law f fd) : FnOk P w K mg base CX0 10 f fd ["_law_script"] (spP K m_law) :=
  okP1 FF sc_law len_law fun f cdv A outer s H E hr => let ⟨t, h⟩ := tm_law Z F_law_fresh F_law_good_deep F_law_is_deep F_law_make F_law_retold F_law_right F_law_same F_law_same_deep F_law_store F_law_take F_deep_text f cdv A outer s H E hr; ⟨t, T_law, h, rd_law⟩
theorem all_mk {l : PySem.W.OpenLaw} {w : World} {K : PySem.W.Frag} {h : Heap} {mg : Str → Option Value} {fa : Addr} (X : K.In h) (G : h.Ns mainGlobals mg) (hfa : mg "law" = some (.ref fa)) (c : obsB l.prog blL rwL K = valB rwL) :
    ∃ fd : FuncData, (∀ (s : Shared) (v : Value), BindsTo s fd ⟨[v], []⟩ [("_law_script", v)]) ∧ ∀ base : Heap, K.In base → base.Ns mainGlobals mg → FnOk l.prog w K mg base CX0 10 fa fd ["_law_script"] (spP K m_law) := by
  have ca_Deep := oBg c 41 (x := "Deep")
  have cl_Deep := He.cls_ok (x := "Deep") (oBa c 0)
  have CI_Deep : Ci K "Deep" fl_Deep := ⟨⟨_, ca_Deep, cl_Deep, oBn c 0 (x := "Deep") (fs := fl_Deep)⟩, by decide, by decide⟩
  have CY : Cy K cyL := oBy c (by decide)
  have GC_Deep : ∀ C, cAt K "Deep" C → mg "Deep" = some (.ref C) := fun C g => PySem.W.mg_of X G g
  have a0 := oBg c 0 (x := "is_name")
  obtain ⟨fd0, F0⟩ := oBf c 0 (x := "is_name") (st := s_is_name)
  have a1 := oBg c 1 (x := "check_name")
  obtain ⟨fd1, F1⟩ := oBf c 1 (x := "check_name") (st := s_check_name)
  have a2 := oBg c 2 (x := "check_number")
  obtain ⟨fd2, F2⟩ := oBf c 2 (x := "check_number") (st := s_check_number)
  have a3 := oBg c 3 (x := "check_names")
  obtain ⟨fd3, F3⟩ := oBf c 3 (x := "check_names") (st := s_check_names)
  have a4 := oBg c 4 (x := "check_known")
  obtain ⟨fd4, F4⟩ := oBf c 4 (x := "check_known") (st := s_check_known)
  have a5 := oBg c 5 (x := "check_new")
  obtain ⟨fd5, F5⟩ := oBf c 5 (x := "check_new") (st := s_check_new)
  have a6 := oBg c 6 (x := "check_passage")
  obtain ⟨fd6, F6⟩ := oBf c 6 (x := "check_passage") (st := s_check_passage)
  have a7 := oBg c 7 (x := "check_delver")
  obtain ⟨fd7, F7⟩ := oBf c 7 (x := "check_delver") (st := s_check_delver)
  have a8 := oBg c 8 (x := "checked_passages")
  obtain ⟨fd8, F8⟩ := oBf c 8 (x := "checked_passages") (st := s_checked_passages)
  have a9 := oBg c 9 (x := "checked_delvers")
  obtain ⟨fd9, F9⟩ := oBf c 9 (x := "checked_delvers") (st := s_checked_delvers)
  have a10 := oBg c 10 (x := "passages_at")
  obtain ⟨fd10, F10⟩ := oBf c 10 (x := "passages_at") (st := s_passages_at)
  obtain ⟨fd11, FD11, F11⟩ := oBk c 11 (p := ("Deep", some "__init__")) (x := "__init__") (q := "Deep.__init__") (st := s_Deep_init)
  obtain ⟨hp12, fd12, F12⟩ := oBp c 0 (d := ⟨"Deep", "rope", "Deep.rope", s_Deep_rope⟩)
  obtain ⟨fd13, F13⟩ := oBm c 12 (p := ("Deep", some "chambers")) (x := "chambers") (q := "Deep.chambers") (st := s_Deep_chambers)
  obtain ⟨fd14, F14⟩ := oBm c 13 (p := ("Deep", some "delvers")) (x := "delvers") (q := "Deep.delvers") (st := s_Deep_delvers)
  obtain ⟨fd15, F15⟩ := oBm c 14 (p := ("Deep", some "home")) (x := "home") (q := "Deep.home") (st := s_Deep_home)
  obtain ⟨fd16, F16⟩ := oBm c 15 (p := ("Deep", some "entries")) (x := "entries") (q := "Deep.entries") (st := s_Deep_entries)
  have a17 := oBg c 11 (x := "deep_text")
  obtain ⟨fd17, F17⟩ := oBf c 16 (x := "deep_text") (st := s_deep_text)
  have a18 := oBg c 12 (x := "_law_mix")
  obtain ⟨fd18, F18⟩ := oBf c 17 (x := "_law_mix") (st := s_law_mix)
  have a19 := oBg c 13 (x := "_law_wide")
  obtain ⟨fd19, F19⟩ := oBf c 18 (x := "_law_wide") (st := s_law_wide)
  have a20 := oBg c 14 (x := "_law_store")
  obtain ⟨fd20, F20⟩ := oBf c 19 (x := "_law_store") (st := s_law_store)
  have a21 := oBg c 15 (x := "_law_take")
  obtain ⟨fd21, F21⟩ := oBf c 20 (x := "_law_take") (st := s_law_take)
  have a22 := oBg c 16 (x := "_law_some")
  obtain ⟨fd22, F22⟩ := oBf c 21 (x := "_law_some") (st := s_law_some)
  have a23 := oBg c 17 (x := "_law_pick")
  obtain ⟨fd23, F23⟩ := oBf c 22 (x := "_law_pick") (st := s_law_pick)
  have a24 := oBg c 18 (x := "_law_mixed")
  obtain ⟨fd24, F24⟩ := oBf c 23 (x := "_law_mixed") (st := s_law_mixed)
  have a25 := oBg c 19 (x := "_law_is_name")
  obtain ⟨fd25, F25⟩ := oBf c 24 (x := "_law_is_name") (st := s_law_is_name)
  have a26 := oBg c 20 (x := "_law_fresh")
  obtain ⟨fd26, F26⟩ := oBf c 25 (x := "_law_fresh") (st := s_law_fresh)
  have a27 := oBg c 21 (x := "_law_word")
  obtain ⟨fd27, F27⟩ := oBf c 26 (x := "_law_word") (st := s_law_word)
  have a28 := oBg c 22 (x := "_law_names")
  obtain ⟨fd28, F28⟩ := oBf c 27 (x := "_law_names") (st := s_law_names)
  have a29 := oBg c 23 (x := "_law_is_number")
  obtain ⟨fd29, F29⟩ := oBf c 28 (x := "_law_is_number") (st := s_law_is_number)
  have a30 := oBg c 24 (x := "_law_same")
  obtain ⟨fd30, F30⟩ := oBf c 29 (x := "_law_same") (st := s_law_same)
  have a31 := oBg c 25 (x := "_law_known")
  obtain ⟨fd31, F31⟩ := oBf c 30 (x := "_law_known") (st := s_law_known)
  have a32 := oBg c 26 (x := "_law_entries")
  obtain ⟨fd32, F32⟩ := oBf c 31 (x := "_law_entries") (st := s_law_entries)
  have a33 := oBg c 27 (x := "_law_same_deep")
  obtain ⟨fd33, F33⟩ := oBf c 32 (x := "_law_same_deep") (st := s_law_same_deep)
  have a34 := oBg c 28 (x := "_law_retold")
  obtain ⟨fd34, F34⟩ := oBf c 33 (x := "_law_retold") (st := s_law_retold)
  have a35 := oBg c 29 (x := "_law_deep_lines")
  obtain ⟨fd35, F35⟩ := oBf c 34 (x := "_law_deep_lines") (st := s_law_deep_lines)
  have a36 := oBg c 30 (x := "_law_make")
  obtain ⟨fd36, F36⟩ := oBf c 35 (x := "_law_make") (st := s_law_make)
  have a37 := oBg c 31 (x := "_law_is_deep")
  obtain ⟨fd37, F37⟩ := oBf c 36 (x := "_law_is_deep") (st := s_law_is_deep)
  have a38 := oBg c 32 (x := "_law_good_deep")
  obtain ⟨fd38, F38⟩ := oBf c 37 (x := "_law_good_deep") (st := s_law_good_deep)
  have a39 := oBg c 33 (x := "_law_read_lines")
  obtain ⟨fd39, F39⟩ := oBf c 38 (x := "_law_read_lines") (st := s_law_read_lines)
  have a40 := oBg c 34 (x := "_law_right")
  obtain ⟨fd40, F40⟩ := oBf c 39 (x := "_law_right") (st := s_law_right)
  have a41 := oBg c 35 (x := "law")
  obtain ⟨fd41, F41⟩ := oBf c 40 (x := "law") (st := s_law)
  have q_BadName : ClOk l.prog K ⟨"BadName", "BadName.__init__", sI_BadName⟩ := oBc c 0
  obtain ⟨oc_BadName, od_BadName, sl_BadName, kV_BadName, doc_BadName, pm_BadName, an_BadName, ct_BadName, l_BadName⟩ := q_BadName.l
  have q_BadNumber : ClOk l.prog K ⟨"BadNumber", "BadNumber.__init__", sI_BadNumber⟩ := oBc c 1
  obtain ⟨oc_BadNumber, od_BadNumber, sl_BadNumber, kV_BadNumber, doc_BadNumber, pm_BadNumber, an_BadNumber, ct_BadNumber, l_BadNumber⟩ := q_BadNumber.l
  have q_Unknown : ClOk l.prog K ⟨"Unknown", "Unknown.__init__", sI_Unknown⟩ := oBc c 2
  obtain ⟨oc_Unknown, od_Unknown, sl_Unknown, kV_Unknown, doc_Unknown, pm_Unknown, an_Unknown, ct_Unknown, l_Unknown⟩ := q_Unknown.l
  have q_Twice : ClOk l.prog K ⟨"Twice", "Twice.__init__", sI_Twice⟩ := oBc c 3
  obtain ⟨oc_Twice, od_Twice, sl_Twice, kV_Twice, doc_Twice, pm_Twice, an_Twice, ct_Twice, l_Twice⟩ := q_Twice.l
  have q_SameEnds : ClOk l.prog K ⟨"SameEnds", "SameEnds.__init__", sI_SameEnds⟩ := oBc c 4
  obtain ⟨oc_SameEnds, od_SameEnds, sl_SameEnds, kV_SameEnds, doc_SameEnds, pm_SameEnds, an_SameEnds, ct_SameEnds, l_SameEnds⟩ := q_SameEnds.l
  have e := hfa.symm.trans (PySem.W.mg_of X G a41)
  cases e
  have Z : Bt mg := ⟨PySem.W.mg_none_of X G (oBz c 0 (x := "len")), PySem.W.mg_none_of X G (oBz c 1 (x := "int")), PySem.W.mg_none_of X G (oBz c 2 (x := "str")), PySem.W.mg_none_of X G (oBz c 3 (x := "abs")), PySem.W.mg_none_of X G (oBz c 4 (x := "min")), PySem.W.mg_none_of X G (oBz c 5 (x := "max")), PySem.W.mg_none_of X G (oBz c 6 (x := "list")), PySem.W.mg_none_of X G (oBz c 7 (x := "tuple")), PySem.W.mg_none_of X G (oBz c 8 (x := "dict")), PySem.W.mg_none_of X G (oBz c 9 (x := "bool")), PySem.W.mg_none_of X G (oBz c 10 (x := "isinstance")), PySem.W.mg_none_of X G (oBz c 11 (x := "range")), PySem.W.mg_none_of X G (oBz c 12 (x := "sorted")), PySem.W.mg_none_of X G (oBz c 13 (x := "enumerate")), PySem.W.mg_none_of X G (oBz c 14 (x := "zip")), PySem.W.mg_none_of X G (oBz c 15 (x := "all")), PySem.W.mg_none_of X G (oBz c 16 (x := "any")), PySem.W.mg_none_of X G (oBz c 17 (x := "sum")), PySem.W.mg_none_of X G (oBz c 18 (x := "reversed")), PySem.W.mg_none_of X G (oBz c 19 (x := "set"))⟩
  have G_CHAMBERS : Gi mg "CHAMBERS" 10 := (let ⟨t, e⟩ := He.int_ok X G (oBi c 0 (x := "CHAMBERS") (v := 10)); ⟨t, e⟩)
  have G_PASSAGES : Gi mg "PASSAGES" 14 := (let ⟨t, e⟩ := He.int_ok X G (oBi c 1 (x := "PASSAGES") (v := 14)); ⟨t, e⟩)
  have G_DELVERS : Gi mg "DELVERS" 6 := (let ⟨t, e⟩ := He.int_ok X G (oBi c 2 (x := "DELVERS") (v := 6)); ⟨t, e⟩)
  have G_WIDTH : Gi mg "WIDTH" 6 := (let ⟨t, e⟩ := He.int_ok X G (oBi c 3 (x := "WIDTH") (v := 6)); ⟨t, e⟩)
  have G_ROPE : Gi mg "ROPE" 12 := (let ⟨t, e⟩ := He.int_ok X G (oBi c 4 (x := "ROPE") (v := 12)); ⟨t, e⟩)
  have G_NAME_LENGTH : Gi mg "NAME_LENGTH" 12 := (let ⟨t, e⟩ := He.int_ok X G (oBi c 5 (x := "NAME_LENGTH") (v := 12)); ⟨t, e⟩)
  have G_LETTERS : Gs mg "LETTERS" "abcdefghijklmnopqrstuvwxyz" := (let ⟨t, e⟩ := He.str_ok X G (oBs c 0 (x := "LETTERS") (v := "abcdefghijklmnopqrstuvwxyz")); ⟨t, e⟩)
  have G_DIGITS : Gs mg "DIGITS" "0123456789" := (let ⟨t, e⟩ := He.str_ok X G (oBs c 1 (x := "DIGITS") (v := "0123456789")); ⟨t, e⟩)
  have R : ExR K mg (tabK K rcL) := exR_of fun p hp => by
    obtain ⟨z, hz, rfl⟩ := List.mem_map.mp hp
    simp only [rcL, List.mem_cons, List.not_mem_nil, or_false, List.mem_append] at hz
    rcases hz with rfl | rfl | rfl | rfl | rfl
    · exact ⟨PySem.W.mg_of X G q_BadName.g, exB_ok q_BadName.x⟩
    · exact ⟨PySem.W.mg_of X G q_BadNumber.g, exB_ok q_BadNumber.x⟩
    · exact ⟨PySem.W.mg_of X G q_Unknown.g, exB_ok q_Unknown.x⟩
    · exact ⟨PySem.W.mg_of X G q_Twice.g, exB_ok q_Twice.x⟩
    · exact ⟨PySem.W.mg_of X G q_SameEnds.g, exB_ok q_SameEnds.x⟩
  have D0 : Df K mg "is_name" s_is_name ["text"] := Df.mk' X G a0 F0 (F0.binds (ps := ["text"]) fun _ _ _ _ _ _ us hl => match us, hl with | [_], _ => rfl)
  have D1 : Df K mg "check_name" s_check_name ["text"] := Df.mk' X G a1 F1 (F1.binds (ps := ["text"]) fun _ _ _ _ _ _ us hl => match us, hl with | [_], _ => rfl)
  have D2 : Df K mg "check_number" s_check_number ["value", "low", "high"] := Df.mk' X G a2 F2 (F2.binds (ps := ["value", "low", "high"]) fun _ _ _ _ _ _ us hl => match us, hl with | [_, _, _], _ => rfl)
  have D3 : Df K mg "check_names" s_check_names ["names", "kind", "limit"] := Df.mk' X G a3 F3 (F3.binds (ps := ["names", "kind", "limit"]) fun _ _ _ _ _ _ us hl => match us, hl with | [_, _, _], _ => rfl)
  have D4 : Df K mg "check_known" s_check_known ["kind", "name", "known"] := Df.mk' X G a4 F4 (F4.binds (ps := ["kind", "name", "known"]) fun _ _ _ _ _ _ us hl => match us, hl with | [_, _, _], _ => rfl)
  have D5 : Df K mg "check_new" s_check_new ["kind", "name", "known"] := Df.mk' X G a5 F5 (F5.binds (ps := ["kind", "name", "known"]) fun _ _ _ _ _ _ us hl => match us, hl with | [_, _, _], _ => rfl)
  have D6 : Df K mg "check_passage" s_check_passage ["entry", "chambers", "earlier"] := Df.mk' X G a6 F6 (F6.binds (ps := ["entry", "chambers", "earlier"]) fun _ _ _ _ _ _ us hl => match us, hl with | [_, _, _], _ => rfl)
  have D7 : Df K mg "check_delver" s_check_delver ["entry", "chambers", "earlier"] := Df.mk' X G a7 F7 (F7.binds (ps := ["entry", "chambers", "earlier"]) fun _ _ _ _ _ _ us hl => match us, hl with | [_, _, _], _ => rfl)
  have D8 : Df K mg "checked_passages" s_checked_passages ["passages", "chambers"] := Df.mk' X G a8 F8 (F8.binds (ps := ["passages", "chambers"]) fun _ _ _ _ _ _ us hl => match us, hl with | [_, _], _ => rfl)
  have D9 : Df K mg "checked_delvers" s_checked_delvers ["delvers", "chambers"] := Df.mk' X G a9 F9 (F9.binds (ps := ["delvers", "chambers"]) fun _ _ _ _ _ _ us hl => match us, hl with | [_, _], _ => rfl)
  have D10 : Df K mg "passages_at" s_passages_at ["chamber", "rows"] := Df.mk' X G a10 F10 (F10.binds (ps := ["chamber", "rows"]) fun _ _ _ _ _ _ us hl => match us, hl with | [_, _], _ => rfl)
  have D12 : Dr K "Deep" "rope" "Deep.rope" s_Deep_rope ["self"] := ⟨⟨_, _, _, fd12, ca_Deep, cl_Deep, hp12, F12, F12.binds (ps := ["self"]) fun _ _ _ _ _ _ us hl => match us, hl with | [_], _ => rfl⟩⟩
  have D13 : Dm K "Deep" "chambers" "Deep.chambers" s_Deep_chambers ["self"] := ⟨⟨_, _, fd13, ca_Deep, cl_Deep, He.meth_ok (x := "Deep") (m := "chambers") (oBa c 2), F13, F13.binds (ps := ["self"]) fun _ _ _ _ _ _ us hl => match us, hl with | [_], _ => rfl⟩⟩
  have D14 : Dm K "Deep" "delvers" "Deep.delvers" s_Deep_delvers ["self"] := ⟨⟨_, _, fd14, ca_Deep, cl_Deep, He.meth_ok (x := "Deep") (m := "delvers") (oBa c 3), F14, F14.binds (ps := ["self"]) fun _ _ _ _ _ _ us hl => match us, hl with | [_], _ => rfl⟩⟩
  have D15 : Dm K "Deep" "home" "Deep.home" s_Deep_home ["self", "delver"] := ⟨⟨_, _, fd15, ca_Deep, cl_Deep, He.meth_ok (x := "Deep") (m := "home") (oBa c 4), F15, F15.binds (ps := ["self", "delver"]) fun _ _ _ _ _ _ us hl => match us, hl with | [_, _], _ => rfl⟩⟩
  have D16 : Dm K "Deep" "entries" "Deep.entries" s_Deep_entries ["self"] := ⟨⟨_, _, fd16, ca_Deep, cl_Deep, He.meth_ok (x := "Deep") (m := "entries") (oBa c 5), F16, F16.binds (ps := ["self"]) fun _ _ _ _ _ _ us hl => match us, hl with | [_], _ => rfl⟩⟩
  have D17 : Df K mg "deep_text" s_deep_text ["deep"] := Df.mk' X G a17 F17 (F17.binds (ps := ["deep"]) fun _ _ _ _ _ _ us hl => match us, hl with | [_], _ => rfl)
  have D18 : Df K mg "_law_mix" s_law_mix ["_law_number", "_law_turn"] := Df.mk' X G a18 F18 (F18.binds (ps := ["_law_number", "_law_turn"]) fun _ _ _ _ _ _ us hl => match us, hl with | [_, _], _ => rfl)
  have D19 : Df K mg "_law_wide" s_law_wide ["_law_number", "_law_turn", "_law_many"] := Df.mk' X G a19 F19 (F19.binds (ps := ["_law_number", "_law_turn", "_law_many"]) fun _ _ _ _ _ _ us hl => match us, hl with | [_, _, _], _ => rfl)
  have D20 : Df K mg "_law_store" s_law_store ["_law_script"] := Df.mk' X G a20 F20 (F20.binds (ps := ["_law_script"]) fun _ _ _ _ _ _ us hl => match us, hl with | [_], _ => rfl)
  have D21 : Df K mg "_law_take" s_law_take ["_law_store_here", "_law_many"] := Df.mk' X G a21 F21 (F21.binds (ps := ["_law_store_here", "_law_many"]) fun _ _ _ _ _ _ us hl => match us, hl with | [_, _], _ => rfl)
  have D22 : Df K mg "_law_some" s_law_some ["_law_store_here", "_law_low", "_law_high"] := Df.mk' X G a22 F22 (F22.binds (ps := ["_law_store_here", "_law_low", "_law_high"]) fun _ _ _ _ _ _ us hl => match us, hl with | [_, _, _], _ => rfl)
  have D23 : Df K mg "_law_pick" s_law_pick ["_law_store_here", "_law_row"] := Df.mk' X G a23 F23 (F23.binds (ps := ["_law_store_here", "_law_row"]) fun _ _ _ _ _ _ us hl => match us, hl with | [_, _], _ => rfl)
  have D24 : Df K mg "_law_mixed" s_law_mixed ["_law_store_here", "_law_row"] := Df.mk' X G a24 F24 (F24.binds (ps := ["_law_store_here", "_law_row"]) fun _ _ _ _ _ _ us hl => match us, hl with | [_, _], _ => rfl)
  have D25 : Df K mg "_law_is_name" s_law_is_name ["_law_text"] := Df.mk' X G a25 F25 (F25.binds (ps := ["_law_text"]) fun _ _ _ _ _ _ us hl => match us, hl with | [_], _ => rfl)
  have D26 : Df K mg "_law_fresh" s_law_fresh ["_law_text", "_law_taken"] := Df.mk' X G a26 F26 (F26.binds (ps := ["_law_text", "_law_taken"]) fun _ _ _ _ _ _ us hl => match us, hl with | [_, _], _ => rfl)
  have D27 : Df K mg "_law_word" s_law_word ["_law_store_here"] := Df.mk' X G a27 F27 (F27.binds (ps := ["_law_store_here"]) fun _ _ _ _ _ _ us hl => match us, hl with | [_], _ => rfl)
  have D28 : Df K mg "_law_names" s_law_names ["_law_store_here", "_law_many"] := Df.mk' X G a28 F28 (F28.binds (ps := ["_law_store_here", "_law_many"]) fun _ _ _ _ _ _ us hl => match us, hl with | [_, _], _ => rfl)
  have D29 : Df K mg "_law_is_number" s_law_is_number ["_law_thing"] := Df.mk' X G a29 F29 (F29.binds (ps := ["_law_thing"]) fun _ _ _ _ _ _ us hl => match us, hl with | [_], _ => rfl)
  have D30 : Df K mg "_law_same" s_law_same ["_law_actual", "_law_due"] := Df.mk' X G a30 F30 (F30.binds (ps := ["_law_actual", "_law_due"]) fun _ _ _ _ _ _ us hl => match us, hl with | [_, _], _ => rfl)
  have D31 : Df K mg "_law_known" s_law_known ["_law_parts", "_law_number"] := Df.mk' X G a31 F31 (F31.binds (ps := ["_law_parts", "_law_number"]) fun _ _ _ _ _ _ us hl => match us, hl with | [_, _], _ => rfl)
  have D32 : Df K mg "_law_entries" s_law_entries ["_law_parts"] := Df.mk' X G a32 F32 (F32.binds (ps := ["_law_parts"]) fun _ _ _ _ _ _ us hl => match us, hl with | [_], _ => rfl)
  have D33 : Df K mg "_law_same_deep" s_law_same_deep ["_law_parts", "_law_others"] := Df.mk' X G a33 F33 (F33.binds (ps := ["_law_parts", "_law_others"]) fun _ _ _ _ _ _ us hl => match us, hl with | [_, _], _ => rfl)
  have D34 : Df K mg "_law_retold" s_law_retold ["_law_store_here", "_law_parts"] := Df.mk' X G a34 F34 (F34.binds (ps := ["_law_store_here", "_law_parts"]) fun _ _ _ _ _ _ us hl => match us, hl with | [_, _], _ => rfl)
  have D35 : Df K mg "_law_deep_lines" s_law_deep_lines ["_law_parts"] := Df.mk' X G a35 F35 (F35.binds (ps := ["_law_parts"]) fun _ _ _ _ _ _ us hl => match us, hl with | [_], _ => rfl)
  have D36 : Df K mg "_law_make" s_law_make ["_law_parts"] := Df.mk' X G a36 F36 (F36.binds (ps := ["_law_parts"]) fun _ _ _ _ _ _ us hl => match us, hl with | [_], _ => rfl)
  have D37 : Df K mg "_law_is_deep" s_law_is_deep ["_law_deep", "_law_parts"] := Df.mk' X G a37 F37 (F37.binds (ps := ["_law_deep", "_law_parts"]) fun _ _ _ _ _ _ us hl => match us, hl with | [_, _], _ => rfl)
  have D38 : Df K mg "_law_good_deep" s_law_good_deep ["_law_store_here"] := Df.mk' X G a38 F38 (F38.binds (ps := ["_law_store_here"]) fun _ _ _ _ _ _ us hl => match us, hl with | [_], _ => rfl)
  have D39 : Df K mg "_law_read_lines" s_law_read_lines ["_law_lines"] := Df.mk' X G a39 F39 (F39.binds (ps := ["_law_lines"]) fun _ _ _ _ _ _ us hl => match us, hl with | [_], _ => rfl)
  have D40 : Df K mg "_law_right" s_law_right ["_law_text", "_law_parts"] := Df.mk' X G a40 F40 (F40.binds (ps := ["_law_text", "_law_parts"]) fun _ _ _ _ _ _ us hl => match us, hl with | [_, _], _ => rfl)
  refine ⟨fd41, law_binds F41 fun _ _ _ _ _ _ _ => rfl, fun base _ _ => ?_⟩
  have I_BadName := fi_BadName (P := l.prog) (w := w) (base := base) (PySem.W.mg_of X G q_BadName.g) (PySem.W.mg_none_of X G (oBz c 20 (x := "super"))) q_BadName.i l_BadName (exB_ok q_BadName.x) (iniB_ok q_BadName.b)
  have I_BadNumber := fi_BadNumber (P := l.prog) (w := w) (base := base) (PySem.W.mg_of X G q_BadNumber.g) (PySem.W.mg_none_of X G (oBz c 20 (x := "super"))) q_BadNumber.i l_BadNumber (exB_ok q_BadNumber.x) (iniB_ok q_BadNumber.b)
  have I_Unknown := fi_Unknown (P := l.prog) (w := w) (base := base) (PySem.W.mg_of X G q_Unknown.g) (PySem.W.mg_none_of X G (oBz c 20 (x := "super"))) q_Unknown.i l_Unknown (exB_ok q_Unknown.x) (iniB_ok q_Unknown.b)
  have I_Twice := fi_Twice (P := l.prog) (w := w) (base := base) (PySem.W.mg_of X G q_Twice.g) (PySem.W.mg_none_of X G (oBz c 20 (x := "super"))) q_Twice.i l_Twice (exB_ok q_Twice.x) (iniB_ok q_Twice.b)
  have I_SameEnds := fi_SameEnds (P := l.prog) (w := w) (base := base) (PySem.W.mg_of X G q_SameEnds.g) (PySem.W.mg_none_of X G (oBz c 20 (x := "super"))) q_SameEnds.i l_SameEnds (exB_ok q_SameEnds.x) (iniB_ok q_SameEnds.b)
  have K0 := ok_is_name (P := l.prog) (w := w) (base := base) Z G_DIGITS G_LETTERS G_NAME_LENGTH D0
  have K1 := ok_check_name (P := l.prog) (w := w) (base := base) Z I_BadName K0 D1
  have K2 := ok_check_number (P := l.prog) (w := w) (base := base) Z I_BadNumber D2
  have K3 := ok_check_names (P := l.prog) (w := w) (base := base) Z I_Twice K1 K2 D3
  have K4 := ok_check_known (P := l.prog) (w := w) (base := base) Z I_Unknown D4
  have K5 := ok_check_new (P := l.prog) (w := w) (base := base) Z I_Twice K1 D5
  have K6 := ok_check_passage (P := l.prog) (w := w) (base := base) Z G_WIDTH I_SameEnds K4 K5 K2 D6
  have K7 := ok_check_delver (P := l.prog) (w := w) (base := base) Z K4 K5 D7
  have K8 := ok_checked_passages (P := l.prog) (w := w) (base := base) Z G_PASSAGES K2 K6 D8
  have K9 := ok_checked_delvers (P := l.prog) (w := w) (base := base) Z G_DELVERS K7 K2 D9
  have K10 := ok_passages_at (P := l.prog) (w := w) (base := base) Z D10
  have K11 := ok_Deep_init (P := l.prog) (w := w) (base := base) Z G_CHAMBERS G_ROPE CI_Deep K3 K2 K9 K8 K10 F11
  obtain ⟨g_FK_Deep_3_rope, kb_FK_Deep_3_rope⟩ := kbn_all (ps := ["self", "chambers", "passages", "delvers", "rope"]) (ks := ["rope"]) (n := 4) F11 fun _ _ _ _ _ _ us ws l1 l2 => match us, l1, ws, l2 with | [_, _, _, _], _, [_], _ => rfl
  have FK_Deep_3_rope : Fk l.prog w K mg base 7 "Deep" 3 ["rope"] [] [] m_Deep_init := ⟨⟨_, _, fd11, ["self", "chambers", "passages", "delvers", "rope"], g_FK_Deep_3_rope, ca_Deep, PySem.W.mg_of X G ca_Deep, He.mkr_ok (x := "Deep") (oBa c 1), K11, kb_FK_Deep_3_rope⟩, by decide, by decide, mono_Deep_init⟩
  have K12 := ok_Deep_rope (P := l.prog) (w := w) (base := base) Z CI_Deep D12
  have K13 := ok_Deep_chambers (P := l.prog) (w := w) (base := base) Z CI_Deep D13
  have K14 := ok_Deep_delvers (P := l.prog) (w := w) (base := base) Z CI_Deep D14
  have K15 := ok_Deep_home (P := l.prog) (w := w) (base := base) Z CI_Deep K4 D15
  have K16 := ok_Deep_entries (P := l.prog) (w := w) (base := base) Z CI_Deep D16
  have K17 := ok_deep_text (P := l.prog) (w := w) (base := base) Z K13 K14 K16 K15 K12 D17
  have K18 := ok_law_mix (P := l.prog) (w := w) (base := base) Z D18
  have K19 := ok_law_wide (P := l.prog) (w := w) (base := base) Z K18 D19
  have K20 := ok_law_store (P := l.prog) (w := w) (base := base) Z D20
  have K21 := ok_law_take (P := l.prog) (w := w) (base := base) Z K19 D21
  have K22 := ok_law_some (P := l.prog) (w := w) (base := base) Z K21 D22
  have K23 := ok_law_pick (P := l.prog) (w := w) (base := base) Z K21 D23
  have K24 := ok_law_mixed (P := l.prog) (w := w) (base := base) Z K21 D24
  have K25 := ok_law_is_name (P := l.prog) (w := w) (base := base) Z D25
  have K26 := ok_law_fresh (P := l.prog) (w := w) (base := base) Z K25 D26
  have K27 := ok_law_word (P := l.prog) (w := w) (base := base) Z K22 K21 D27
  have K28 := ok_law_names (P := l.prog) (w := w) (base := base) Z K26 K24 K21 K27 D28
  have K29 := ok_law_is_number (P := l.prog) (w := w) (base := base) Z D29
  have K30 := ok_law_same (P := l.prog) (w := w) (base := base) Z K29 D30
  have K31 := ok_law_known (P := l.prog) (w := w) (base := base) Z D31
  have K32 := ok_law_entries (P := l.prog) (w := w) (base := base) Z D32
  have K33 := ok_law_same_deep (P := l.prog) (w := w) (base := base) Z K32 D33
  have K34 := ok_law_retold (P := l.prog) (w := w) (base := base) Z K24 K21 D34
  have K35 := ok_law_deep_lines (P := l.prog) (w := w) (base := base) Z K32 D35
  have K36 := ok_law_make (P := l.prog) (w := w) (base := base) Z FK_Deep_3_rope D36
  have K37 := ok_law_is_deep (P := l.prog) (w := w) (base := base) Z CY GC_Deep K13 K14 K16 K15 K12 K32 K31 K30 D37
  have K38 := ok_law_good_deep (P := l.prog) (w := w) (base := base) Z K28 K23 K22 K21 D38
  have K39 := ok_law_read_lines (P := l.prog) (w := w) (base := base) Z D39
  have K40 := ok_law_right (P := l.prog) (w := w) (base := base) Z K35 K32 K31 K39 K30 D40
  exact ok_law Z K26 K38 K37 K36 K34 K40 K30 K33 K20 K21 K17 F41
end
end DL
open PySem PySem.W PySem.Calls PyProof.Rows
set_option maxHeartbeats 0 in
theorem PySem.Challenge.cw_tetherdeep_k09_texts_of_deeps_holds : PySem.Challenge.rw_tetherdeep_k09_texts_of_deeps.Holds := by
  w_on; o_law
  refine HandSHeadRun.head_any (r := (PySem.W.OpenLaw.row PySem.Challenge.rw_tetherdeep_k09_texts_of_deeps)) (q := DL.viewL) (H := DL.hkL) (ob := DL.obL) (M := 30000) (loose := DL.looseL) (d := HandSHeadRun.topDef (PySem.W.OpenLaw.row PySem.Challenge.rw_tetherdeep_k09_texts_of_deeps).prog 55) (kwd := []) (DL.obB_eq _ _ _ _)
    (by kernel_rfl) (fun s => by kernel_rfl) DL.runL (by kernel_rfl) (by kernel_rfl) (by kernel_rfl) (by rfl) (by first | assumption | decide +kernel) (by decide +kernel) ⟨rfl, rfl, rfl, rfl, rfl, by decide +kernel⟩ ?hw ?hc
  case hw => w_witness2
  case hc =>
    refine L2.walk_ofE (l := PySem.Challenge.rw_tetherdeep_k09_texts_of_deeps) (n := 63) (k := 10) (x := "_law_script") (CX := L2.CX0) rfl (by decide) (by kernel_rfl) ⟨rfl, by decide, by decide⟩ ?F (fun _ _ _ _ z => z)
    intro w mg fa h Y G hmg0
    obtain ⟨K, KX, c⟩ := Y
    have hmg : mg ("law" : PySem.Str) = some (.ref fa) := by
      have e : (HandSHeadRun.topDef (PySem.W.OpenLaw.row PySem.Challenge.rw_tetherdeep_k09_texts_of_deeps).prog 55).name = ("law" : PySem.Str) := by kernel_rfl
      rw [← e]
      exact hmg0
    obtain ⟨fd, hb, hF⟩ := DL.all_mk (l := PySem.Challenge.rw_tetherdeep_k09_texts_of_deeps) (w := w) KX G hmg c
    exact ⟨K, fd, DL.spP K DL.m_law, KX, hb, fun H a ns hl _ hS => DL.spP_start hS (fun κ hk => ⟨ns, rfl, hl, hk⟩) fun _ => rfl, hF⟩
