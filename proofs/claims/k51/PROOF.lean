import PyProof.Rows.All
import Wide.All
import OpenK.AllK
import Wide.FinOn
import HandS.ForMost
import HandS.ForExc
import HandS.Codes
import HandS.CallSlots
import HandS.ExcIs
import HandS.SetFor
import KE.SortData
import HandS.Style
import HandS.RaiseMore
import KE.DataMinMax
import KE.KDictList
import KE.KDictSum
import HandS.Text
import HandS.TryMany
import HandS.Zip
import HandS.TryOnly
import KE.GoesComp
import KE.KAsSuite
import KE.RegKIsAll
import PySem.Challenge.RW_typeasks_k51_whole_diary_texts
set_option Elab.async false
set_option linter.all false
set_option maxRecDepth 100000
set_option maxHeartbeats 4000000
/-! DL: values as data (D), mutable cells (Mh), readings judged over them. -/
namespace DL
open PySem PySem.Spec PyProof.Rows L2
open SX (S)

/-- I is known to I' -/
def Kn (I I' : Hp) : Prop := ∀ a o, I a = some o → I' a = some o
theorem Kn.refl (I : Hp) : Kn I I := fun _ _ h => h
theorem Kn.trans {I J K : Hp} (a : Kn I J) (b : Kn J K) : Kn I K := fun x o h => b x o (a x o h)
/-- data: what never changes is a tree; what may change is named by its address -/
inductive D where
  | non | bl (b : Bool) | int (i : Int) | str (s : List Nat) | tup (xs : List D) | lst (xs : List D) | ref (a : Addr) | exc (c : Addr) | ty (n : String) | opq (P : V → Hp → Prop)

/-- an own exception of the class at c, held as a value -/
def ExV (c a : Addr) : HO := .ext fun h => ∃ oe : Obj, h.get? a = some oe ∧ oe.cls = .ref c ∧ oe.dict = none ∧ ∃ vs, oe.data = .fields vs

mutual
inductive Rp (I : Hp) : V → D → Prop
  | non : Rp I .non .non
  | bl (b : Bool) : Rp I (.bl b) (.bl b)
  | int (i : Int) : Rp I (.int i) (.int i)
  | str (s : List Nat) : Rp I (.str (S s)) (.str s)
  | tup {a : Addr} {vs : List V} {ds : List D} : I a = some (.tup vs) → RpL I vs ds → Rp I (.ref a) (.tup ds)
  | lst {a : Addr} {vs : List V} {ds : List D} : I a = some (.lst vs) → RpL I vs ds → Rp I (.ref a) (.lst ds)
  | ref (a : Addr) : Rp I (.ref a) (.ref a)
  | exc {a c : Addr} : I a = some (ExV c a) → Rp I (.ref a) (.exc c)
  | ty (n : String) : Rp I (.ty n) (.ty n)
  | opq {P : V → Hp → Prop} {v : V} : P v I → (∀ I I', Kn I I' → P v I → P v I') → Rp I v (.opq P)
inductive RpL (I : Hp) : List V → List D → Prop
  | nil : RpL I [] []
  | cons {v : V} {vs : List V} {d : D} {ds : List D} : Rp I v d → RpL I vs ds → RpL I (v :: vs) (d :: ds)
end

mutual
theorem Rp.mono {I I' : Hp} (k : Kn I I') : ∀ {v : V} {d : D}, Rp I v d → Rp I' v d
  | _, _, .non => .non
  | _, _, .bl b => .bl b
  | _, _, .int i => .int i
  | _, _, .str s => .str s
  | _, _, .tup h hs => .tup (k _ _ h) (RpL.mono k hs)
  | _, _, .lst h hs => .lst (k _ _ h) (RpL.mono k hs)
  | _, _, .ref a => .ref a
  | _, _, .exc h => .exc (k _ _ h)
  | _, _, .ty n => .ty n
  | _, _, .opq h m => .opq (m _ _ k h) m
theorem RpL.mono {I I' : Hp} (k : Kn I I') : ∀ {vs : List V} {ds : List D}, RpL I vs ds → RpL I' vs ds
  | _, _, .nil => .nil
  | _, _, .cons h hs => .cons (Rp.mono k h) (RpL.mono k hs)
end
theorem RpL.length {I : Hp} : ∀ {vs : List V} {ds : List D}, RpL I vs ds → vs.length = ds.length
  | _, _, .nil => rfl
  | _, _, .cons _ h => congrArg (· + 1) h.length
theorem RpL.get {I : Hp} : ∀ {vs : List V} {ds : List D} {i : Nat} {v : V}, RpL I vs ds → vs[i]? = some v → ∃ d, ds[i]? = some d ∧ Rp I v d
  | _, _, _, _, .nil, e => by simp at e
  | _, _, 0, _, .cons r _, e => by simp at e; subst e; exact ⟨_, rfl, r⟩
  | _, _, i + 1, v, .cons _ t, e => by
    obtain ⟨d, h1, h2⟩ := RpL.get (i := i) (v := v) t (by simpa using e)
    exact ⟨d, by simpa using h1, h2⟩
theorem RpL.getD {I : Hp} : ∀ {vs : List V} {ds : List D} {i : Nat} {d : D}, RpL I vs ds → ds[i]? = some d → ∃ v, vs[i]? = some v ∧ Rp I v d
  | _, _, _, _, .nil, e => by simp at e
  | _, _, 0, _, .cons r _, e => by simp at e; subst e; exact ⟨_, rfl, r⟩
  | _, _, i + 1, d, .cons _ t, e => by
    obtain ⟨v, h1, h2⟩ := RpL.getD (i := i) (d := d) t (by simpa using e)
    exact ⟨v, by simpa using h1, h2⟩
theorem RpL.append {I : Hp} : ∀ {vs ws : List V} {ds es : List D}, RpL I vs ds → RpL I ws es → RpL I (vs ++ ws) (ds ++ es)
  | _, _, _, _, .nil, s => s
  | _, _, _, _, .cons r t, s => .cons r (RpL.append t s)
theorem RpL.take {I : Hp} : ∀ {vs : List V} {ds : List D} (n : Nat), RpL I vs ds → RpL I (vs.take n) (ds.take n)
  | _, _, 0, _ => .nil
  | _, _, _ + 1, .nil => .nil
  | _, _, n + 1, .cons r t => .cons r (RpL.take n t)
theorem RpL.drop {I : Hp} : ∀ {vs : List V} {ds : List D} (n : Nat), RpL I vs ds → RpL I (vs.drop n) (ds.drop n)
  | _, _, 0, r => r
  | _, _, _ + 1, .nil => .nil
  | _, _, n + 1, .cons _ t => RpL.drop n t
theorem RpL.set {I : Hp} {v : V} {d : D} (r : Rp I v d) : ∀ {vs : List V} {ds : List D} (i : Nat), RpL I vs ds → RpL I (vs.set i v) (ds.set i d)
  | _, _, _, .nil => .nil
  | _, _, 0, .cons _ t => .cons r t
  | _, _, i + 1, .cons q t => .cons q (RpL.set r i t)
theorem RpL.strs {I : Hp} : ∀ (xs : List (List Nat)), RpL I (xs.map fun x => V.str (S x)) (xs.map D.str)
  | [] => .nil
  | x :: xs => .cons (.str x) (RpL.strs xs)
theorem RpL.ints {I : Hp} : ∀ (xs : List Int), RpL I (xs.map V.int) (xs.map D.int)
  | [] => .nil
  | x :: xs => .cons (.int x) (RpL.ints xs)
theorem RpL.to_strs {I : Hp} : ∀ {vs : List V} {xs : List (List Nat)}, RpL I vs (xs.map D.str) → vs = xs.map fun x => V.str (S x)
  | _, [], h => by cases h; rfl
  | _, x :: xs, h => by
    cases h with
    | cons h1 h2 =>
      cases h1
      rw [RpL.to_strs h2]
      rfl
theorem RpL.to_ints {I : Hp} : ∀ {vs : List V} {xs : List Int}, RpL I vs (xs.map D.int) → vs = xs.map V.int
  | _, [], h => by cases h; rfl
  | _, x :: xs, h => by
    cases h with
    | cons h1 h2 =>
      cases h1
      rw [RpL.to_ints h2]
      rfl
theorem RpL.to_bls {I : Hp} : ∀ {vs : List V} {xs : List Bool}, RpL I vs (xs.map D.bl) → vs = xs.map V.bl
  | _, [], h => by cases h; rfl
  | _, x :: xs, h => by
    cases h with
    | cons h1 h2 =>
      cases h1
      rw [RpL.to_bls h2]
      rfl

/-- fields, entries -/
def RpF {κ : Type} (I : Hp) : List (κ × V) → List (κ × D) → Prop := Paired fun p q => p.1 = q.1 ∧ Rp I p.2 q.2
theorem RpF.mono {κ : Type} {I I' : Hp} (k : Kn I I') {vs : List (κ × V)} {ds : List (κ × D)} (h : RpF I vs ds) : RpF I' vs ds :=
  Paired.mapP h fun _ _ z => ⟨z.1, z.2.mono k⟩
theorem RpF.length {κ : Type} {I : Hp} {vs : List (κ × V)} {ds : List (κ × D)} (h : RpF I vs ds) : vs.length = ds.length := Paired.length h

/-- what may change: a list, an instance (its fields' names and values), a dict -/
inductive Cell where
  | lst (ds : List D) | ins (C : Addr) (ns : List Str) (ds : List D) | dic (kvs : List (Key × D))
abbrev Mh := Addr → Option Cell
def CellOk (I : Hp) : Cell → HO → Prop
  | .lst ds, o => ∃ vs, o = .lst vs ∧ RpL I vs ds
  | .ins C ns ds, o => ∃ dx vs, o = .ins C dx (ns.zip vs) ∧ RpL I vs ds ∧ ns.length = ds.length
  | .dic kvs, o => ∃ vs, o = .dK vs ∧ RpF I vs kvs
theorem CellOk.mono {I I' : Hp} (k : Kn I I') : ∀ {c : Cell} {o : HO}, CellOk I c o → CellOk I' c o
  | .lst _, _, ⟨vs, e, r⟩ => ⟨vs, e, r.mono k⟩
  | .ins _ _ _, _, ⟨dx, vs, e, r, n⟩ => ⟨dx, vs, e, r.mono k, n⟩
  | .dic _, _, ⟨vs, e, r⟩ => ⟨vs, e, r.mono k⟩

/-- what never changes -/
def imm (H : Hp) (M : Mh) : Hp := fun a => if (M a).isSome = true then none else H a
theorem imm_of {H : Hp} {M : Mh} {a : Addr} {o : HO} (h : H a = some o) (m : M a = none) : imm H M a = some o := by
  unfold imm
  rw [m]
  exact h
theorem of_imm {H : Hp} {M : Mh} {a : Addr} {o : HO} (h : imm H M a = some o) : H a = some o ∧ M a = none := by
  unfold imm at h
  cases e : M a with
  | none =>
    rw [e] at h
    exact ⟨h, rfl⟩
  | some c =>
    rw [e] at h
    cases h
structure Sta (M : Mh) (H : Hp) : Prop where
  cell : ∀ a c, M a = some c → ∃ o, H a = some o ∧ CellOk (imm H M) c o
theorem Sta.fresh {M : Mh} {H : Hp} (s : Sta M H) {a : Addr} (h : H a = none) : M a = none := by
  cases e : M a with
  | none => rfl
  | some c =>
    obtain ⟨o, q, _⟩ := s.cell a c e
    rw [h] at q
    cases q
/-- a step: what never changes stays -/
abbrev Stp (H : Hp) (M : Mh) (H' : Hp) (M' : Mh) : Prop := Kn (imm H M) (imm H' M')

abbrev upM (M : Mh) (a : Addr) (c : Cell) : Mh := fun b => if b = a then some c else M b
theorem upM_same {M : Mh} {a : Addr} {c : Cell} : upM M a c a = some c := if_pos rfl
theorem upM_ne {M : Mh} {a b : Addr} {c : Cell} (h : b ≠ a) : upM M a c b = M b := if_neg h
theorem upM_upM {M : Mh} {a : Addr} {c d : Cell} : upM (upM M a c) a d = upM M a d := by
  funext b
  by_cases h : b = a
  · rw [h, upM_same, upM_same]
  · rw [upM_ne h, upM_ne h, upM_ne h]
theorem upM_id {M : Mh} {a : Addr} {c : Cell} (h : M a = some c) : upM M a c = M := by
  funext b
  by_cases e : b = a
  · rw [e, upM_same, h]
  · rw [upM_ne e]
def deM (M : Mh) (a : Addr) : Mh := fun b => if b = a then none else M b
theorem deM_same {M : Mh} {a : Addr} : deM M a a = none := if_pos rfl
theorem deM_ne {M : Mh} {a b : Addr} (h : b ≠ a) : deM M a b = M b := if_neg h
theorem deM_upM {M : Mh} {a : Addr} {c : Cell} (h : M a = none) : deM (upM M a c) a = M := by
  funext b
  by_cases e : b = a
  · rw [e, deM_same, h]
  · rw [deM_ne e, upM_ne e]

/-! ### the heap's moves, by the cells -/
section
variable {M : Mh} {H : Hp} {a : Addr}
/-- a new thing that never changes -/
theorem Stp.new {o : HO} (h : H a = none) : Stp H M (upd H a o) M := fun b u q => by
  obtain ⟨q1, q2⟩ := of_imm q
  exact imm_of (by rw [upd_ne (ne_of_none q1 h)]; exact q1) q2
theorem Sta.new {o : HO} (s : Sta M H) (h : H a = none) : Sta M (upd H a o) := ⟨fun b c q => by
  obtain ⟨u, e, r⟩ := s.cell b c q
  exact ⟨u, by rw [upd_ne (ne_of_none e h)]; exact e, r.mono (Stp.new h)⟩⟩
theorem imm_new {o : HO} (s : Sta M H) (h : H a = none) : imm (upd H a o) M a = some o := imm_of upd_same (s.fresh h)
/-- a new cell -/
theorem Stp.newC {o : HO} {c : Cell} (h : H a = none) : Stp H M (upd H a o) (upM M a c) := fun b u q => by
  obtain ⟨q1, q2⟩ := of_imm q
  have n : b ≠ a := ne_of_none q1 h
  exact imm_of (by rw [upd_ne n]; exact q1) (by rw [upM_ne n]; exact q2)
theorem Sta.newC {o : HO} {c : Cell} (s : Sta M H) (h : H a = none) (ok : CellOk (imm H M) c o) : Sta (upM M a c) (upd H a o) := ⟨fun b d q => by
  by_cases e : b = a
  · subst e
    rw [upM_same] at q
    cases q
    exact ⟨o, upd_same, ok.mono (Stp.newC h)⟩
  · rw [upM_ne e] at q
    obtain ⟨u, e1, r⟩ := s.cell b d q
    exact ⟨u, by rw [upd_ne e]; exact e1, r.mono (Stp.newC h)⟩⟩
/-- a cell changes -/
theorem Stp.set {o : HO} {c c' : Cell} (m : M a = some c) : Stp H M (upd H a o) (upM M a c') := fun b u q => by
  obtain ⟨q1, q2⟩ := of_imm q
  have n : b ≠ a := fun z => by
    rw [z, m] at q2
    cases q2
  exact imm_of (by rw [upd_ne n]; exact q1) (by rw [upM_ne n]; exact q2)
theorem Sta.set {o : HO} {c c' : Cell} (s : Sta M H) (m : M a = some c) (ok : CellOk (imm H M) c' o) : Sta (upM M a c') (upd H a o) := ⟨fun b d q => by
  by_cases e : b = a
  · subst e
    rw [upM_same] at q
    cases q
    exact ⟨o, upd_same, ok.mono (Stp.set m)⟩
  · rw [upM_ne e] at q
    obtain ⟨u, e1, r⟩ := s.cell b d q
    exact ⟨u, by rw [upd_ne e]; exact e1, r.mono (Stp.set m)⟩⟩
/-- a cell that changes no more -/
theorem Stp.frz {c : Cell} (m : M a = some c) : Stp H M H (deM M a) := fun b u q => by
  obtain ⟨q1, q2⟩ := of_imm q
  have n : b ≠ a := fun z => by
    rw [z, m] at q2
    cases q2
  exact imm_of q1 (by rw [deM_ne n]; exact q2)
theorem Sta.frz {c : Cell} (s : Sta M H) (m : M a = some c) : Sta (deM M a) H := ⟨fun b d q => by
  have n : b ≠ a := fun z => by
    rw [z, deM_same] at q
    cases q
  rw [deM_ne n] at q
  obtain ⟨u, e1, r⟩ := s.cell b d q
  exact ⟨u, e1, r.mono (Stp.frz m)⟩⟩
theorem Rp.frz {ds : List D} (s : Sta M H) (m : M a = some (.lst ds)) : Rp (imm H (deM M a)) (.ref a) (.lst ds) := by
  obtain ⟨o, e, vs, rfl, r⟩ := s.cell a _ m
  exact .lst (imm_of e deM_same) (r.mono (Stp.frz m))
theorem Sta.lst {ds : List D} (s : Sta M H) (m : M a = some (.lst ds)) : ∃ vs, H a = some (.lst vs) ∧ RpL (imm H M) vs ds := by
  obtain ⟨o, e, vs, rfl, r⟩ := s.cell a _ m
  exact ⟨vs, e, r⟩
theorem Sta.ins {C : Addr} {ns : List Str} {ds : List D} (s : Sta M H) (m : M a = some (.ins C ns ds)) : ∃ dx vs, H a = some (.ins C dx (ns.zip vs)) ∧ RpL (imm H M) vs ds ∧ ns.length = ds.length := by
  obtain ⟨o, e, dx, vs, rfl, r, n⟩ := s.cell a _ m
  exact ⟨dx, vs, e, r, n⟩
theorem Sta.dic {kvs : List (Key × D)} (s : Sta M H) (m : M a = some (.dic kvs)) : ∃ vs, H a = some (.dK vs) ∧ RpF (imm H M) vs kvs := by
  obtain ⟨o, e, vs, rfl, r⟩ := s.cell a _ m
  exact ⟨vs, e, r⟩
end

/-! ### slots -/
abbrev En := List (Option D)
def RpO (I : Hp) : Option V → Option D → Prop
  | some v, some d => Rp I v d
  | _, none => True
  | none, some _ => False
abbrev RpE (I : Hp) : L2.St → En → Prop := Paired (RpO I)
theorem RpO.mono {I I' : Hp} (k : Kn I I') : ∀ {v : Option V} {d : Option D}, RpO I v d → RpO I' v d
  | some _, some _, h => Rp.mono k h
  | some _, none, _ => trivial
  | none, none, _ => trivial
  | none, some _, h => h
theorem RpE.mono {I I' : Hp} (k : Kn I I') {σ : L2.St} {ρ : En} (h : RpE I σ ρ) : RpE I' σ ρ := Paired.mapP h fun _ _ z => RpO.mono k z
theorem RpE.get {I : Hp} : ∀ {σ : L2.St} {ρ : En} {i : Nat} {d : D}, RpE I σ ρ → ρ[i]? = some (some d) → ∃ v, σ[i]? = some (some v) ∧ Rp I v d
  | _, _, _, _, .nil, e => by simp at e
  | _, _, 0, d, .cons (a := v) r _, e => by
    simp at e
    subst e
    cases v with
    | none => exact (show False from r).elim
    | some v => exact ⟨v, rfl, r⟩
  | _, _, i + 1, d, .cons _ t, e => by
    obtain ⟨v, h1, h2⟩ := RpE.get (i := i) (d := d) t (by simpa using e)
    exact ⟨v, by simpa using h1, h2⟩
theorem RpE.set {I : Hp} {v : Option V} {d : Option D} (r : RpO I v d) : ∀ {σ : L2.St} {ρ : En} (i : Nat), RpE I σ ρ → RpE I (σ.set i v) (ρ.set i d)
  | _, _, _, .nil => .nil
  | _, _, 0, .cons _ t => .cons r t
  | _, _, i + 1, .cons q t => .cons q (RpE.set r i t)
theorem RpE.start {I : Hp} : ∀ {vs : List V} {ds : List D} (n : Nat), RpL I vs ds → RpE I (vs.map some ++ List.replicate n none) (ds.map some ++ List.replicate n none)
  | _, _, 0, .nil => .nil
  | _, _, n + 1, .nil => .cons trivial (RpE.start (vs := []) (ds := []) n .nil)
  | _, _, n, .cons r t => .cons r (RpE.start n t)

/-! ### what follows, by data -/
abbrev XD := Addr → En → Mh → Prop
def Pe (H : Hp) (M : Mh) (Q : D → Mh → Prop) (k : VK) : Prop := ∀ v d H' M', Q d M' → Sta M' H' → Stp H M H' M' → Rp (imm H' M') v d → k v H'
def Pt (H : Hp) (M : Mh) (Q : Bool → Mh → Prop) (k : Bool → Hp → Prop) : Prop := ∀ b H' M', Q b M' → Sta M' H' → Stp H M H' M' → k b H'
def Pa (H : Hp) (M : Mh) (Q : List D → Mh → Prop) (k : List V → Hp → Prop) : Prop := ∀ vs ds H' M', Q ds M' → Sta M' H' → Stp H M H' M' → RpL (imm H' M') vs ds → k vs H'
def Pn (H : Hp) (M : Mh) (Q : En → Mh → Prop) (k : L2.St → Hp → Prop) : Prop := ∀ σ ρ H' M', Q ρ M' → Sta M' H' → Stp H M H' M' → RpE (imm H' M') σ ρ → k σ H'
def Px (H : Hp) (M : Mh) (X : XD) (W : WX) : Prop := ∀ c σ ρ H' M', X c ρ M' → Sta M' H' → Stp H M H' M' → RpE (imm H' M') σ ρ → W (.ref c) none σ H'
theorem Pe.mono {H : Hp} {M : Mh} {H' : Hp} {M' : Mh} {Q : D → Mh → Prop} {k : VK} (p : Pe H M Q k) (t : Stp H M H' M') : Pe H' M' Q k := fun v d H2 M2 q s t2 r => p v d H2 M2 q s (t.trans t2) r
theorem Pt.mono {H : Hp} {M : Mh} {H' : Hp} {M' : Mh} {Q : Bool → Mh → Prop} {k : Bool → Hp → Prop} (p : Pt H M Q k) (t : Stp H M H' M') : Pt H' M' Q k := fun b H2 M2 q s t2 => p b H2 M2 q s (t.trans t2)
theorem Pa.mono {H : Hp} {M : Mh} {H' : Hp} {M' : Mh} {Q : List D → Mh → Prop} {k : List V → Hp → Prop} (p : Pa H M Q k) (t : Stp H M H' M') : Pa H' M' Q k := fun v d H2 M2 q s t2 r => p v d H2 M2 q s (t.trans t2) r
theorem Pn.mono {H : Hp} {M : Mh} {H' : Hp} {M' : Mh} {Q : En → Mh → Prop} {k : L2.St → Hp → Prop} (p : Pn H M Q k) (t : Stp H M H' M') : Pn H' M' Q k := fun v d H2 M2 q s t2 r => p v d H2 M2 q s (t.trans t2) r
theorem Px.mono {H : Hp} {M : Mh} {H' : Hp} {M' : Mh} {X : XD} {W : WX} (p : Px H M X W) (t : Stp H M H' M') : Px H' M' X W := fun c v d H2 M2 q s t2 r => p c v d H2 M2 q s (t.trans t2) r
structure DE where
  nx : En → Mh → Prop
  rt : D → Mh → Prop
  bk : En → Mh → Prop := fun _ _ => False
  ct : En → Mh → Prop := fun _ _ => False
structure Pd (H : Hp) (M : Mh) (A : DE) (D : Ends) : Prop where
  nx : Pn H M A.nx D.nx
  rt : Pe H M A.rt D.rt
  bk : Pn H M A.bk D.bk
  ct : Pn H M A.ct D.ct
theorem Pd.mono {H : Hp} {M : Mh} {H' : Hp} {M' : Mh} {A : DE} {D : Ends} (p : Pd H M A D) (t : Stp H M H' M') : Pd H' M' A D := ⟨p.nx.mono t, p.rt.mono t, p.bk.mono t, p.ct.mono t⟩

/-! ### the judgements -/
def lE (W : WX) (te : TE) (ρ : En) (M : Mh) (Q : D → Mh → Prop) (X : XD) : Prop := ∀ σ H k, Sta M H → RpE (imm H M) σ ρ → Pe H M Q k → Px H M X W → te σ H k
def lT (W : WX) (tt : TT) (ρ : En) (M : Mh) (Q : Bool → Mh → Prop) (X : XD) : Prop := ∀ σ H k, Sta M H → RpE (imm H M) σ ρ → Pt H M Q k → Px H M X W → tt σ H k
def lA (W : WX) (ta : TA) (ρ : En) (M : Mh) (Q : List D → Mh → Prop) (X : XD) : Prop := ∀ σ H k, Sta M H → RpE (imm H M) σ ρ → Pa H M Q k → Px H M X W → ta σ H k
def lS (W : WX) (ts : TS) (ρ : En) (M : Mh) (A : DE) (X : XD) : Prop := ∀ σ H D, Sta M H → RpE (imm H M) σ ρ → Pd H M A D → Px H M X W → ts D σ H
def lG (W : WX) (g : TG) (d : D) (ρ : En) (M : Mh) (Q : En → Mh → Prop) (X : XD) : Prop := ∀ v σ H k, Sta M H → RpE (imm H M) σ ρ → Rp (imm H M) v d → Pn H M Q k → Px H M X W → g v σ H k
def lGs (W : WX) (g : TGs) (ds : List D) (ρ : En) (M : Mh) (Q : En → Mh → Prop) (X : XD) : Prop := ∀ vs σ H k, Sta M H → RpE (imm H M) σ ρ → RpL (imm H M) vs ds → Pn H M Q k → Px H M X W → g vs σ H k
/-- by values -/
def lR (r : R2) (x y : D) (M : Mh) (Q : D → Mh → Prop) : Prop := ∀ u v H k, Sta M H → Rp (imm H M) u x → Rp (imm H M) v y → Pe H M Q k → r u v H k
def lU (r : V → Hp → VK → Prop) (x : D) (M : Mh) (Q : D → Mh → Prop) : Prop := ∀ u H k, Sta M H → Rp (imm H M) u x → Pe H M Q k → r u H k
def lC (r : List V → Hp → VK → Prop) (xs : List D) (M : Mh) (Q : D → Mh → Prop) : Prop := ∀ us H k, Sta M H → RpL (imm H M) us xs → Pe H M Q k → r us H k
def lM (r : V → List V → Hp → VK → Prop) (x : D) (xs : List D) (M : Mh) (Q : D → Mh → Prop) : Prop := ∀ u us H k, Sta M H → Rp (imm H M) u x → RpL (imm H M) us xs → Pe H M Q k → r u us H k
def lSl (r : V → Option Int → Option Int → Hp → VK → Prop) (x : D) (lo hi : Option Int) (M : Mh) (Q : D → Mh → Prop) : Prop := ∀ u H k, Sta M H → Rp (imm H M) u x → Pe H M Q k → r u lo hi H k
def lO (W : WX) (t : TO) (ρ : En) (M : Mh) (Q : Option Int → Mh → Prop) (X : XD) : Prop := ∀ σ H (k : Option Int → Hp → Prop), Sta M H → RpE (imm H M) σ ρ → (∀ o H' M', Q o M' → Sta M' H' → Stp H M H' M' → k o H') → Px H M X W → t σ H k

section
variable {W : WX} {X : XD} {ρ : En} {M : Mh} {Q : D → Mh → Prop} {A : DE} {K : PySem.W.Frag}
/-! ### expressions -/
theorem l_var {i : Nat} {d : D} (h : ρ[i]? = some (some d)) (q : Q d M) : lE W (tVar i) ρ M Q X := fun σ H k s e p _ => by
  obtain ⟨v, hv, r⟩ := e.get h
  exact ⟨v, hv, p v d H M q s (Kn.refl _) r⟩
theorem l_int {i : Int} (q : Q (.int i) M) : lE W (tC (.int i)) ρ M Q X := fun _ H _ s _ p _ => p _ _ H M q s (Kn.refl _) (.int i)
theorem l_bl {i : Bool} (q : Q (.bl i) M) : lE W (tC (.bl i)) ρ M Q X := fun _ H _ s _ p _ => p _ _ H M q s (Kn.refl _) (.bl i)
theorem l_non (q : Q .non M) : lE W (tC .non) ρ M Q X := fun _ H _ s _ p _ => p _ _ H M q s (Kn.refl _) .non
theorem l_ty {n : String} (q : Q (.ty n) M) : lE W (tC (.ty n)) ρ M Q X := fun _ H _ s _ p _ => p _ _ H M q s (Kn.refl _) (.ty n)
theorem l_ref {a : Addr} (q : Q (.ref a) M) : lE W (tC (.ref a)) ρ M Q X := fun _ H _ s _ p _ => p _ _ H M q s (Kn.refl _) (.ref a)
theorem S_tl (x : Str) : S (TL.tl x) = x := TL.mk_tl x
theorem l_str {x : Str} (q : Q (.str (TL.tl x)) M) : lE W (tC (.str x)) ρ M Q X := fun _ H _ s _ p _ => p _ _ H M q s (Kn.refl _) (by
  have h := Rp.str (I := imm H M) (TL.tl x)
  rw [S_tl] at h
  exact h)
theorem l_op {r : R2} {ta tb : TE} (h : lE W ta ρ M (fun x M1 => lE W tb ρ M1 (fun y M2 => lR r x y M2 Q) X) X) : lE W (tOp r ta tb) ρ M Q X := fun σ H k s e p px =>
  h σ H _ s e (fun u x H1 M1 q1 s1 t1 r1 => q1 σ H1 _ s1 (e.mono t1) (fun v y H2 M2 q2 s2 t2 r2 => q2 u v H2 k s2 (r1.mono t2) r2 (p.mono (t1.trans t2))) (px.mono t1)) px
theorem l_un {r : V → Hp → VK → Prop} {ta : TE} (h : lE W ta ρ M (fun x M1 => lU r x M1 Q) X) : lE W (tUn r ta) ρ M Q X := fun σ H k s e p px =>
  h σ H _ s e (fun u x H1 M1 q1 s1 t1 r1 => q1 u H1 k s1 r1 (p.mono t1)) px
theorem lE_mono {te : TE} {Q' : D → Mh → Prop} (h : lE W te ρ M Q X) (i : ∀ d M, Q d M → Q' d M) : lE W te ρ M Q' X := fun σ H k s e p px =>
  h σ H k s e (fun v d H' M' q s' t r => p v d H' M' (i _ _ q) s' t r) px
/-- whole numbers -/
theorem r_I0 {g : Int → Int → V} {f : Int → Int → D} {i j : Int} (hg : ∀ I, Rp I (g i j) (f i j)) (q : Q (f i j) M) : lR (rI0 g) (.int i) (.int j) M Q := fun u v H k s ru rv p => by
  cases ru
  cases rv
  exact ⟨i, j, rfl, rfl, p _ _ H M q s (Kn.refl _) (hg _)⟩
theorem r_I {C : Int → Int → Prop} {g : Int → Int → V} {f : Int → Int → D} {i j : Int} (hg : ∀ I, Rp I (g i j) (f i j)) (hc : C i j) (q : Q (f i j) M) : lR (rI C g) (.int i) (.int j) M Q := fun u v H k s ru rv p => by
  cases ru
  cases rv
  exact ⟨i, j, rfl, rfl, hc, p _ _ H M q s (Kn.refl _) (hg _)⟩
theorem r_add {i j : Int} (q : Q (.int (i + j)) M) : lR (rI0 fun i j => .int (i + j)) (.int i) (.int j) M Q := r_I0 (g := fun i j => .int (i + j)) (f := fun i j => .int (i + j)) (fun _ => .int _) q
theorem r_sub {i j : Int} (q : Q (.int (i - j)) M) : lR (rI0 fun i j => .int (i - j)) (.int i) (.int j) M Q := r_I0 (g := fun i j => .int (i - j)) (f := fun i j => .int (i - j)) (fun _ => .int _) q
theorem r_lt {i j : Int} (q : Q (.bl (decide (i < j))) M) : lR (rI0 fun i j => .bl (decide (i < j))) (.int i) (.int j) M Q := r_I0 (g := fun i j => .bl (decide (i < j))) (f := fun i j => .bl (decide (i < j))) (fun _ => .bl _) q
theorem r_le {i j : Int} (q : Q (.bl (decide (i ≤ j))) M) : lR (rI0 fun i j => .bl (decide (i ≤ j))) (.int i) (.int j) M Q := r_I0 (g := fun i j => .bl (decide (i ≤ j))) (f := fun i j => .bl (decide (i ≤ j))) (fun _ => .bl _) q
theorem r_gt {i j : Int} (q : Q (.bl (decide (j < i))) M) : lR (rI0 fun i j => .bl (decide (j < i))) (.int i) (.int j) M Q := r_I0 (g := fun i j => .bl (decide (j < i))) (f := fun i j => .bl (decide (j < i))) (fun _ => .bl _) q
theorem r_ge {i j : Int} (q : Q (.bl (decide (j ≤ i))) M) : lR (rI0 fun i j => .bl (decide (j ≤ i))) (.int i) (.int j) M Q := r_I0 (g := fun i j => .bl (decide (j ≤ i))) (f := fun i j => .bl (decide (j ≤ i))) (fun _ => .bl _) q
theorem r_mul {i j : Int} (hc : CMul i j) (q : Q (.int (i * j)) M) : lR (rI CMul fun i j => .int (i * j)) (.int i) (.int j) M Q := r_I (g := fun i j => .int (i * j)) (f := fun i j => .int (i * j)) (fun _ => .int _) hc q
theorem r_fdiv {i j : Int} (hc : CDiv i j) (q : Q (.int (i / j)) M) : lR (rI CDiv fun i j => .int (i / j)) (.int i) (.int j) M Q := r_I (g := fun i j => .int (i / j)) (f := fun i j => .int (i / j)) (fun _ => .int _) hc q
theorem r_mod {i j : Int} (hc : 0 < j) (q : Q (.int (i % j)) M) : lR (rI (fun _ j => 0 < j) fun i j => .int (i % j)) (.int i) (.int j) M Q := r_I (C := fun _ j => 0 < j) (g := fun i j => .int (i % j)) (f := fun i j => .int (i % j)) (fun _ => .int _) hc q
theorem r_pow {i j : Int} (hc : CPow i j) (q : Q (.int (i ^ j.toNat)) M) : lR (rI CPow fun i j => .int (i ^ j.toNat)) (.int i) (.int j) M Q := r_I (g := fun i j => .int (i ^ j.toNat)) (f := fun i j => .int (i ^ j.toNat)) (fun _ => .int _) hc q
theorem u_neg {i : Int} (q : Q (.int (-i)) M) : lU (rU fun i => .int (-i)) (.int i) M Q := fun u H k s ru p => by
  cases ru
  exact ⟨i, rfl, p _ _ H M q s (Kn.refl _) (.int _)⟩
/-- is None -/
def isNon : D → Bool
  | .non => true
  | _ => false
def isOpq : D → Bool
  | .opq _ => true
  | _ => false
theorem isNon_rp {I : Hp} {v : V} {d : D} (r : Rp I v d) (h : isOpq d = false) : decide (v = .non) = isNon d := by
  cases r <;> first | rfl | cases h
def rIsNo : R2 := fun x y H Q => y = .non ∧ Q (.bl (decide (x = .non))) H
def rNotNo : R2 := fun x y H Q => y = .non ∧ Q (.bl (!decide (x = .non))) H
theorem r_isN {x : D} (ho : isOpq x = false) (q : Q (.bl (isNon x)) M) : lR rIsNo x .non M Q := fun u v H k s ru rv p => by
  cases rv
  refine ⟨rfl, p _ _ H M q s (Kn.refl _) ?_⟩
  rw [isNon_rp ru ho]
  exact .bl _
theorem r_notN {x : D} (ho : isOpq x = false) (q : Q (.bl (!isNon x)) M) : lR rNotNo x .non M Q := fun u v H k s ru rv p => by
  cases rv
  refine ⟨rfl, p _ _ H M q s (Kn.refl _) ?_⟩
  rw [isNon_rp ru ho]
  exact .bl _

/-! ### tests -/
theorem t_test {te : TE} {QT : Bool → Mh → Prop} (h : lE W te ρ M (fun d M1 => ∃ b, d = .bl b ∧ QT b M1) X) : lT W (tTest te) ρ M QT X := fun σ H k s e p px =>
  h σ H _ s e (fun u x H1 M1 q1 s1 t1 r1 => by
    obtain ⟨b, rfl, q⟩ := q1
    cases r1
    exact ⟨b, rfl, p b H1 M1 q s1 t1⟩) px
theorem t_B {te : TE} {QT : Bool → Mh → Prop} (h : lE W te ρ M (fun d M1 => ∃ b, d = .bl b ∧ QT b M1) X) : lT W (tB te) ρ M QT X := fun σ H k s e p px =>
  h σ H _ s e (fun u x H1 M1 q1 s1 t1 r1 => by
    obtain ⟨b, rfl, q⟩ := q1
    cases r1
    exact ⟨b, rfl, p b H1 M1 q s1 t1⟩) px
theorem t_and {t u : TT} {QT : Bool → Mh → Prop} (h : lT W t ρ M (fun b M1 => (b = true → lT W u ρ M1 QT X) ∧ (b = false → QT false M1)) X) : lT W (tAnd t u) ρ M QT X := fun σ H k s e p px =>
  h σ H _ s e (fun b H1 M1 q1 s1 t1 => by
    cases b with
    | true =>
      show u σ H1 k
      exact q1.1 rfl σ H1 k s1 (e.mono t1) (p.mono t1) (px.mono t1)
    | false =>
      show k false H1
      exact p false H1 M1 (q1.2 rfl) s1 t1) px
theorem t_or {t u : TT} {QT : Bool → Mh → Prop} (h : lT W t ρ M (fun b M1 => (b = true → QT true M1) ∧ (b = false → lT W u ρ M1 QT X)) X) : lT W (tOr t u) ρ M QT X := fun σ H k s e p px =>
  h σ H _ s e (fun b H1 M1 q1 s1 t1 => by
    cases b with
    | true =>
      show k true H1
      exact p true H1 M1 (q1.1 rfl) s1 t1
    | false =>
      show u σ H1 k
      exact q1.2 rfl σ H1 k s1 (e.mono t1) (p.mono t1) (px.mono t1)) px
theorem t_not {t : TT} {QT : Bool → Mh → Prop} (h : lT W t ρ M (fun b M1 => QT (!b) M1) X) : lT W (tNot t) ρ M QT X := fun σ H k s e p px =>
  h σ H _ s e (fun b H1 M1 q1 s1 t1 => p (!b) H1 M1 q1 s1 t1) px
theorem l_andV {ta tb : TE} (h : lE W ta ρ M (fun d M1 => ∃ b, d = .bl b ∧ (b = true → lE W tb ρ M1 Q X) ∧ (b = false → Q (.bl false) M1)) X) : lE W (tAndV ta tb) ρ M Q X := fun σ H k s e p px =>
  h σ H _ s e (fun u x H1 M1 q1 s1 t1 r1 => by
    obtain ⟨b, rfl, q, q'⟩ := q1
    cases r1
    refine ⟨b, rfl, ?_⟩
    cases b with
    | true =>
      show tb σ H1 k
      exact q rfl σ H1 k s1 (e.mono t1) (p.mono t1) (px.mono t1)
    | false =>
      show k (.bl false) H1
      exact p _ _ H1 M1 (q' rfl) s1 t1 (.bl _)) px
theorem l_orV {ta tb : TE} (h : lE W ta ρ M (fun d M1 => ∃ b, d = .bl b ∧ (b = true → Q (.bl true) M1) ∧ (b = false → lE W tb ρ M1 Q X)) X) : lE W (tOrV ta tb) ρ M Q X := fun σ H k s e p px =>
  h σ H _ s e (fun u x H1 M1 q1 s1 t1 r1 => by
    obtain ⟨b, rfl, q, q'⟩ := q1
    cases r1
    refine ⟨b, rfl, ?_⟩
    cases b with
    | true =>
      show k (.bl true) H1
      exact p _ _ H1 M1 (q rfl) s1 t1 (.bl _)
    | false =>
      show tb σ H1 k
      exact q' rfl σ H1 k s1 (e.mono t1) (p.mono t1) (px.mono t1)) px
theorem l_notV {ta : TE} (h : lE W ta ρ M (fun d M1 => ∃ b, d = .bl b ∧ Q (.bl (!b)) M1) X) : lE W (tNotV ta) ρ M Q X := fun σ H k s e p px =>
  h σ H _ s e (fun u x H1 M1 q1 s1 t1 r1 => by
    obtain ⟨b, rfl, q⟩ := q1
    cases r1
    exact ⟨b, rfl, p _ _ H1 M1 q s1 t1 (.bl _)⟩) px
theorem l_if {t : TT} {ta tb : TE} (h : lT W t ρ M (fun b M1 => (b = true → lE W ta ρ M1 Q X) ∧ (b = false → lE W tb ρ M1 Q X)) X) : lE W (tIf t ta tb) ρ M Q X := fun σ H k s e p px =>
  h σ H _ s e (fun b H1 M1 q1 s1 t1 => by
    cases b with
    | true =>
      show ta σ H1 k
      exact q1.1 rfl σ H1 k s1 (e.mono t1) (p.mono t1) (px.mono t1)
    | false =>
      show tb σ H1 k
      exact q1.2 rfl σ H1 k s1 (e.mono t1) (p.mono t1) (px.mono t1)) px
/-- a < b < c -/
theorem l_chain {r r' : R2} {ta tb tc : TE} (h : lE W ta ρ M (fun x M1 => lE W tb ρ M1 (fun y M2 => lR r x y M2 (fun z M3 => ∃ b, z = .bl b ∧ (b = true → lE W tc ρ M3 (fun w M4 => lR r' y w M4 Q) X) ∧ (b = false → Q (.bl false) M3))) X) X) :
    lE W (fun σ H Q => ta σ H fun x H1 => tb σ H1 fun y H2 => r x y H2 fun z H3 => ∃ k, z = .bl k ∧ if k = true then tc σ H3 fun w H4 => r' y w H4 Q else Q (.bl false) H3) ρ M Q X := fun σ H k s e p px =>
  h σ H _ s e (fun u x H1 M1 q1 s1 t1 r1 => q1 σ H1 _ s1 (e.mono t1) (fun v y H2 M2 q2 s2 t2 r2 => q2 u v H2 _ s2 (r1.mono t2) r2 (fun z zd H3 M3 q3 s3 t3 r3 => by
    obtain ⟨b, rfl, q4, q5⟩ := q3
    cases r3
    refine ⟨b, rfl, ?_⟩
    cases b with
    | true =>
      refine iteT (q4 rfl σ H3 _ s3 (e.mono (t1.trans (t2.trans t3))) (fun w wd H4 M4 q6 s4 t4 r4 => q6 v w H4 k s4 (r2.mono (t3.trans t4)) r4 (p.mono (t1.trans (t2.trans (t3.trans t4))))) (px.mono (t1.trans (t2.trans t3))))
    | false => exact iteF (p _ _ H3 M3 (q5 rfl) s3 (t1.trans (t2.trans t3)) (.bl _)))) (px.mono t1)) px

/-! ### arguments, displays -/
theorem a_nil {QA : List D → Mh → Prop} (q : QA [] M) : lA W tNil ρ M QA X := fun _ H _ s _ p _ => p _ _ H M q s (Kn.refl _) .nil
theorem a_cons {QA : List D → Mh → Prop} {te : TE} {tr : TA} (h : lE W te ρ M (fun d M1 => lA W tr ρ M1 (fun ds M2 => QA (d :: ds) M2) X) X) : lA W (tCons te tr) ρ M QA X := fun σ H k s e p px =>
  h σ H _ s e (fun u x H1 M1 q1 s1 t1 r1 => q1 σ H1 _ s1 (e.mono t1) (fun vs ds H2 M2 q2 s2 t2 r2 => p _ _ H2 M2 q2 s2 (t1.trans t2) (.cons (r1.mono t2) r2)) (px.mono t1)) px
theorem line_le {n : Nat} (h : n ≤ 100000) : n ≤ sizeLine := Nat.le_trans h (by decide)
theorem line_lt {n : Nat} (h : n ≤ 100000) : n < sizeLine := Nat.lt_of_le_of_lt h (by decide)
theorem l_tup {ta : TA} (h : lA W ta ρ M (fun ds M1 => ds.length ≤ 100000 ∧ Q (.tup ds) M1) X) : lE W (tTup ta) ρ M Q X := fun σ H k s e p px =>
  h σ H _ s e (fun vs ds H1 M1 q1 s1 t1 r1 => ⟨by rw [r1.length]; exact line_le q1.1, fun a ha => p _ _ _ M1 q1.2 (s1.new ha) (t1.trans (Stp.new ha)) (.tup (imm_new s1 ha) (r1.mono (Stp.new ha)))⟩) px
/-- a list that stays as it is -/
theorem l_lst {ta : TA} (h : lA W ta ρ M (fun ds M1 => ds.length ≤ 100000 ∧ Q (.lst ds) M1) X) : lE W (tLst ta) ρ M Q X := fun σ H k s e p px =>
  h σ H _ s e (fun vs ds H1 M1 q1 s1 t1 r1 => ⟨by rw [r1.length]; exact line_le q1.1, fun a ha => p _ _ _ M1 q1.2 (s1.new ha) (t1.trans (Stp.new ha)) (.lst (imm_new s1 ha) (r1.mono (Stp.new ha)))⟩) px
/-- a list that may change -/
theorem l_lstM {ta : TA} (h : lA W ta ρ M (fun ds M1 => ds.length ≤ 100000 ∧ ∀ a, M1 a = none → Q (.ref a) (upM M1 a (.lst ds))) X) : lE W (tLst ta) ρ M Q X := fun σ H k s e p px =>
  h σ H _ s e (fun vs ds H1 M1 q1 s1 t1 r1 => ⟨by rw [r1.length]; exact line_le q1.1, fun a ha => p _ _ _ _ (q1.2 a (s1.fresh ha)) (s1.newC ha ⟨vs, rfl, r1⟩) (t1.trans (Stp.newC ha)) (.ref a)⟩) px

/-! ### statements -/
theorem s_next (q : A.nx ρ M) : lS W tNext ρ M A X := fun _ H _ s e p _ => p.nx _ _ H M q s (Kn.refl _) e
theorem s_seq {t u : TS} (h : lS W t ρ M { A with nx := fun ρ1 M1 => lS W u ρ1 M1 A X } X) : lS W (tSeq t u) ρ M A X := fun σ H D s e p px =>
  h σ H _ s e ⟨fun σ1 ρ1 H1 M1 q1 s1 t1 e1 => q1 σ1 H1 D s1 e1 (p.mono t1) (px.mono t1), p.rt, p.bk, p.ct⟩ px
theorem s_asg {te : TE} {g : TG} (h : lE W te ρ M (fun d M1 => lG W g d ρ M1 A.nx X) X) : lS W (tAsg te g) ρ M A X := fun σ H D s e p px =>
  h σ H _ s e (fun v d H1 M1 q1 s1 t1 r1 => q1 v σ H1 _ s1 (e.mono t1) r1 (p.nx.mono t1) (px.mono t1)) px
theorem g_name {i : Nat} {d : D} {QG : En → Mh → Prop} (q : QG (ρ.set i (some d)) M) : lG W (gName i) d ρ M QG X := fun v σ H k s e r p _ =>
  p _ _ H M q s (Kn.refl _) (RpE.set (v := some v) (d := some d) r i e)
theorem g_nil {QG : En → Mh → Prop} (q : QG ρ M) : lGs W gNil [] ρ M QG X := fun vs σ H k s e r p _ => by
  cases r
  exact ⟨rfl, p _ _ H M q s (Kn.refl _) e⟩
theorem g_cons {t : TG} {u : TGs} {d : D} {ds : List D} {QG : En → Mh → Prop} (h : lG W t d ρ M (fun ρ1 M1 => lGs W u ds ρ1 M1 QG X) X) : lGs W (gCons t u) (d :: ds) ρ M QG X := fun vs σ H k s e r p px => by
  cases r with
  | cons r1 r2 =>
    refine ⟨_, _, rfl, h _ σ H _ s e r1 (fun σ1 ρ1 H1 M1 q1 s1 t1 e1 => ?_) px⟩
    exact q1 _ σ1 H1 k s1 e1 (r2.mono t1) (p.mono t1) (px.mono t1)
theorem g_tup {n : Nat} {t : TGs} {ds : List D} {QG : En → Mh → Prop} (hn : ds.length = n) (h : lGs W t ds ρ M QG X) : lG W (gTup K n t) (.tup ds) ρ M QG X := fun v σ H k s e r p px => by
  cases r with
  | tup ha hr => exact ⟨_, _, rfl, SqT.of (of_imm ha).1, by rw [hr.length, hn], h _ σ H k s e hr p px⟩
theorem s_ret {te : TE} (h : lE W te ρ M A.rt X) : lS W (tRet te) ρ M A X := fun σ H D s e p px => h σ H _ s e p.rt px
theorem s_retN (q : A.rt .non M) : lS W tRetN ρ M A X := fun _ H _ s _ p _ => p.rt _ _ H M q s (Kn.refl _) .non
theorem s_drop {te : TE} (h : lE W te ρ M (fun _ M1 => A.nx ρ M1) X) : lS W (tDrop te) ρ M A X := fun σ H D s e p px =>
  h σ H _ s e (fun v d H1 M1 q1 s1 t1 r1 => p.nx _ _ H1 M1 q1 s1 t1 (e.mono t1)) px
theorem s_if {c : TT} {t u : TS} (h : lT W c ρ M (fun b M1 => (b = true → lS W t ρ M1 A X) ∧ (b = false → lS W u ρ M1 A X)) X) : lS W (tIfS c t u) ρ M A X := fun σ H D s e p px =>
  h σ H _ s e (fun b H1 M1 q1 s1 t1 => by
    cases b with
    | true =>
      show t D σ H1
      exact q1.1 rfl σ H1 D s1 (e.mono t1) (p.mono t1) (px.mono t1)
    | false =>
      show u D σ H1
      exact q1.2 rfl σ H1 D s1 (e.mono t1) (p.mono t1) (px.mono t1)) px
theorem s_par {i j : Nat} {ta : TA} (h : lA W ta ρ M (fun ds M1 => ∃ d d', ds = [d, d'] ∧ A.nx ((ρ.set i (some d)).set j (some d')) M1) X) : lS W (tPar i j ta) ρ M A X := fun σ H D s e p px =>
  h σ H _ s e (fun vs ds H1 M1 q1 s1 t1 r1 => by
    obtain ⟨d, d', rfl, q⟩ := q1
    cases r1 with
    | cons ra rb =>
      cases rb with
      | cons rb rc =>
        cases rc
        exact ⟨_, _, rfl, p.nx _ _ H1 M1 q s1 t1 (RpE.set (v := some _) (d := some d') rb j (RpE.set (v := some _) (d := some d) ra i (e.mono t1)))⟩) px
theorem s_cut {t u : TS} (Mid : En → Mh → Prop) (h : lS W t ρ M { A with nx := Mid } X) (h2 : ∀ ρ' M', Mid ρ' M' → lS W u ρ' M' A X) : lS W (tSeq t u) ρ M A X := fun σ H D s e p px =>
  h σ H _ s e ⟨fun σ1 ρ1 H1 M1 q1 s1 t1 e1 => h2 ρ1 M1 q1 σ1 H1 D s1 e1 (p.mono t1) (px.mono t1), p.rt, p.bk, p.ct⟩ px
/-- a cell that changes no more, in a slot -/
theorem s_frz {t : TS} {i : Nat} {a : Addr} {ds : List D} (hi : ρ[i]? = some (some (.ref a))) (m : M a = some (.lst ds)) (h : lS W t (ρ.set i (some (.lst ds))) (deM M a) A X) : lS W t ρ M A X := fun σ H D s e p px => by
  have e2 : RpE (imm H (deM M a)) σ (ρ.set i (some (.lst ds))) := by
    obtain ⟨v, hv, r⟩ := e.get hi
    cases r
    have e3 := RpE.set (v := some (.ref a)) (d := some (.lst ds)) (I := imm H (deM M a)) (Rp.frz s m) i (e.mono (Stp.frz m))
    have eq : σ.set i (some (.ref a)) = σ := by
      refine List.ext_getElem? fun j => ?_
      by_cases hj : i = j
      · subst hj
        have hl : i < σ.length := by
          have := List.getElem?_eq_some_iff.mp hv
          exact this.1
        rw [List.getElem?_set_self hl, hv]
      · rw [List.getElem?_set_ne hj]
    rw [eq] at e3
    exact e3
  exact h σ H D (s.frz m) e2 (p.mono (Stp.frz m)) (px.mono (Stp.frz m))
/-- .. in an answer -/
theorem l_frz {te : TE} (h : lE W te ρ M (fun d M1 => ∃ a ds, d = .ref a ∧ M1 a = some (.lst ds) ∧ Q (.lst ds) (deM M1 a)) X) : lE W te ρ M Q X := fun σ H k s e p px =>
  h σ H k s e (fun v d H1 M1 q1 s1 t1 r1 => by
    obtain ⟨a, ds, rfl, m, q⟩ := q1
    cases r1
    exact p _ _ H1 _ q (s1.frz m) (t1.trans (Stp.frz m)) (Rp.frz s1 m)) px
/-- in what is known: any fact about the state may be used -/
theorem s_raise {c : Addr} (q : X c ρ M) : lS W (fun _ σ H => (fun (cls : Value) (d : Option Addr) (_ : L2.St) (H : Hp) => W cls d σ H) (.ref c) none σ H) ρ M A X := fun σ H D s e p px => px c σ ρ H M q s (Kn.refl _) e
end

/-! ### a def's promise, by data -/
abbrev DSp := List D → Mh → (D → Mh → Prop) → (Addr → Mh → Prop) → Prop
def lift (n : Nat) (ds : DSp) : Sp := fun vs H Q E => ∃ (M : Mh) (xs : List D) (Qd : D → Mh → Prop) (Ed : Addr → Mh → Prop), Sta M H ∧ RpL (imm H M) vs xs ∧ xs.length = n ∧ ds xs M Qd Ed ∧ Pe H M Qd Q ∧
  ∀ c H' M', Ed c M' → Sta M' H' → Stp H M H' M' → E (.ref c) none H'
theorem lift_len {n : Nat} {ds : DSp} {vs : List V} {H : Hp} {Q : VK} {E : XK} (h : lift n ds vs H Q E) : vs.length = n := by
  obtain ⟨M, xs, _, _, _, r, hn, _⟩ := h
  rw [r.length, hn]
/-- nothing is let out -/
abbrev W0 : WX := fun _ _ _ _ => False
/-- what leaves a def -/
abbrev WF (E : XK) : WX := fun cls d _ H => E cls d H
abbrev noX : XD := fun _ _ _ => False
theorem px0 {H : Hp} {M : Mh} {W : WX} : Px H M noX W := fun _ _ _ _ _ q => q.elim
/-- a body's reading keeps the promise -/
theorem lift_body {n : Nat} {ds : DSp} {N : List Str} {t : WX → TS} (hN : n ≤ N.length)
    (h : ∀ (W : WX) (xs : List D) (M : Mh) (Q : D → Mh → Prop) (E : Addr → Mh → Prop), xs.length = n → ds xs M Q E → lS W (t W) (xs.map some ++ List.replicate (N.length - n) none) M ⟨fun _ M' => Q .non M', Q, fun _ _ => False, fun _ _ => False⟩ (fun c _ M' => E c M'))
    {vs : List V} {H : Hp} {Q : VK} {E : XK} (k : lift n ds vs H Q E) : t (WF E) { nx := fun _ H' => Q .non H', rt := Q } (L2.start N vs) H := by
  obtain ⟨M, xs, Qd, Ed, s, r, hn, hd, p, px⟩ := k
  refine h (WF E) xs M Qd Ed hn hd _ H _ s ?_ ⟨fun σ' ρ' H' M' q s' t' _ => p _ _ H' M' q s' t' .non, p, fun _ _ _ _ q => q.elim, fun _ _ _ _ q => q.elim⟩ (fun c σ' ρ' H' M' q s' t' _ => px c H' M' q s' t')
  have e := RpE.start (N.length - n) r
  unfold L2.start
  rw [r.length, hn]
  exact e

section
variable {W : WX} {X : XD} {ρ : En} {M : Mh} {Q : D → Mh → Prop} {A : DE} {K : PySem.W.Frag}
theorem l_call {n : Nat} {sp : DSp} {ta : TA} (h : lA W ta ρ M (fun xs M1 => xs.length = n ∧ sp xs M1 Q (fun c M2 => X c ρ M2)) X) : lE W (tCallS (lift n sp) (WE W) ta) ρ M Q X := fun σ H k s e p px =>
  h σ H _ s e (fun vs xs H1 M1 q1 s1 t1 r1 => ⟨M1, xs, Q, _, s1, r1, q1.1, q1.2, p.mono t1, fun c H' M' q s' t' => px c σ ρ H' M' q s' (t1.trans t') (e.mono (t1.trans t'))⟩) px
/-- o.m(..), C(..), at the caller's slots -/
def tMethS (C : Addr) (m : Str) (sp : Sp) (E : L2.St → XK) (ta : TE) (t : TA) : TE := fun σ H Q => ta σ H fun x H1 => ∃ a dx fs, x = .ref a ∧ H1 a = some (.ins C dx fs) ∧ fs.lookup m = none ∧ t σ H1 fun vs H2 => sp (x :: vs) H2 Q (E σ)
def tMakeS (C : Addr) (sp : Sp) (E : L2.St → XK) (t : TA) : TE := fun σ H Q => t σ H fun vs H1 => ∀ x dx, H1 x = none → H1 dx = none → dx ≠ x →
  sp (.ref x :: vs) (upd (upd H1 dx (.own x)) x (.ins C dx [])) (fun v H2 => v = .non ∧ Q (.ref x) H2) (E σ)
theorem zip_none {κ : Type} {ns : List Str} {m : Str} (h : m ∉ ns) : ∀ {vs : List κ}, (ns.zip vs).lookup m = none := by
  induction ns with
  | nil => intro vs; rfl
  | cons n ns ih =>
    intro vs
    cases vs with
    | nil => rfl
    | cons v vs =>
      have h1 : m ≠ n := fun z => h (by rw [z]; exact List.mem_cons_self)
      have h2 : (m == n) = false := by simpa using h1
      rw [List.zip_cons_cons, List.lookup_cons, h2]
      exact ih fun z => h (List.mem_cons_of_mem _ z)
theorem zip_look {κ : Type} : ∀ {ns : List Str} {vs : List κ} {i : Nat} {f : Str} {v : κ}, ns.Nodup → ns[i]? = some f → vs[i]? = some v → (ns.zip vs).lookup f = some v
  | [], _, _, _, _, _, h, _ => by simp at h
  | _ :: _, [], _, _, _, _, _, h => by simp at h
  | n :: ns, v :: vs, 0, f, w, _, h1, h2 => by
    simp at h1 h2
    subst h1
    subst h2
    rw [List.zip_cons_cons, List.lookup_cons, beq_self_eq_true]
  | n :: ns, v :: vs, i + 1, f, w, hd, h1, h2 => by
    have h3 : ns[i]? = some f := by simpa using h1
    have h4 : f ≠ n := fun z => by
      rw [z] at h3
      exact (List.nodup_cons.mp hd).1 (List.mem_of_getElem? h3)
    have h5 : (f == n) = false := by simpa using h4
    rw [List.zip_cons_cons, List.lookup_cons, h5]
    exact zip_look (List.nodup_cons.mp hd).2 h3 (by simpa using h2)
theorem zip_put {v : V} : ∀ {ns : List Str} {vs : List V} {i : Nat} {f : Str}, ns.Nodup → ns[i]? = some f → ns.length = vs.length → putF f v (ns.zip vs) = ns.zip (vs.set i v)
  | [], _, _, _, _, h, _ => by simp at h
  | _ :: _, [], _, _, _, _, h => by simp at h
  | n :: ns, w :: vs, 0, f, _, h1, _ => by
    simp at h1
    subst h1
    show (if n = n then (n, v) :: ns.zip vs else _) = _
    rw [if_pos rfl]
    rfl
  | n :: ns, w :: vs, i + 1, f, hd, h1, hl => by
    have h3 : ns[i]? = some f := by simpa using h1
    have h4 : ¬ n = f := fun z => by
      rw [← z] at h3
      exact (List.nodup_cons.mp hd).1 (List.mem_of_getElem? h3)
    show (if n = f then _ else (n, w) :: putF f v (ns.zip vs)) = _
    rw [if_neg h4, zip_put (List.nodup_cons.mp hd).2 h3 (by simpa using hl)]
    rfl
theorem zip_putN {v : V} {f : Str} : ∀ {ns : List Str} {vs : List V}, f ∉ ns → ns.length = vs.length → putF f v (ns.zip vs) = (ns ++ [f]).zip (vs ++ [v])
  | [], [], _, _ => rfl
  | [], _ :: _, _, h => by simp at h
  | _ :: _, [], _, h => by simp at h
  | n :: ns, w :: vs, h, hl => by
    have h4 : ¬ n = f := fun z => h (by rw [z]; exact List.mem_cons_self)
    show (if n = f then _ else (n, w) :: putF f v (ns.zip vs)) = _
    rw [if_neg h4, zip_putN (fun z => h (List.mem_cons_of_mem _ z)) (by simpa using hl)]
    rfl
theorem l_meth {C : Addr} {m : Str} {n : Nat} {sp : DSp} {ta : TE} {t : TA}
    (h : lE W ta ρ M (fun x M1 => ∃ a ns ds, x = .ref a ∧ M1 a = some (.ins C ns ds) ∧ m ∉ ns ∧ lA W t ρ M1 (fun xs M2 => (D.ref a :: xs).length = n ∧ sp (.ref a :: xs) M2 Q (fun c M3 => X c ρ M3)) X) X) : lE W (tMethS C m (lift n sp) (WE W) ta t) ρ M Q X := fun σ H k s e p px =>
  h σ H _ s e (fun u x H1 M1 q1 s1 t1 r1 => by
    obtain ⟨a, ns, ds, rfl, hm, hn, q⟩ := q1
    cases r1
    obtain ⟨dx, vs, ha, _, _⟩ := s1.ins hm
    exact ⟨a, dx, _, rfl, ha, zip_none hn, q σ H1 _ s1 (e.mono t1) (fun vs xs H2 M2 q2 s2 t2 r2 => ⟨M2, _, Q, _, s2, .cons (.ref a) r2, q2.1, q2.2, p.mono (t1.trans t2), fun c H' M' q s' t' => px c σ ρ H' M' q s' ((t1.trans t2).trans t') (e.mono ((t1.trans t2).trans t'))⟩) (px.mono t1)⟩) px
theorem l_make {C : Addr} {n : Nat} {sp : DSp} {t : TA}
    (h : lA W t ρ M (fun xs M1 => xs.length + 1 = n ∧ ∀ a, M1 a = none → sp (.ref a :: xs) (upM M1 a (.ins C [] [])) (fun v M2 => v = .non ∧ Q (.ref a) M2) (fun c M3 => X c ρ M3)) X) : lE W (tMakeS C (lift n sp) (WE W) t) ρ M Q X := fun σ H k s e p px =>
  h σ H _ s e (fun vs xs H1 M1 q1 s1 t1 r1 x dx hx hdx nx => by
    have hx1 : upd H1 dx (.own x) x = none := by rw [upd_ne nx.symm]; exact hx
    have s2 : Sta (upM M1 x (.ins C [] [])) (upd (upd H1 dx (.own x)) x (.ins C dx [])) := (s1.new hdx).newC hx1 ⟨dx, [], rfl, .nil, rfl⟩
    have t2 : Stp H1 M1 (upd (upd H1 dx (.own x)) x (.ins C dx [])) (upM M1 x (.ins C [] [])) := (Stp.new hdx).trans (Stp.newC hx1)
    refine ⟨_, D.ref x :: xs, _, _, s2, .cons (.ref x) (r1.mono t2), q1.1, q1.2 x (s1.fresh hx), fun v d H' M' q s' t' r' => ?_, fun c H' M' q s' t' => px c σ ρ H' M' q s' ((t1.trans t2).trans t') (e.mono ((t1.trans t2).trans t'))⟩
    obtain ⟨rfl, q⟩ := q
    cases r'
    exact ⟨rfl, p _ _ H' M' q s' ((t1.trans t2).trans t') (.ref x)⟩) px

/-! ### fields -/
/-- a class whose instances have these fields -/
structure Fld (K : PySem.W.Frag) (C : Addr) (ns : List Str) : Prop where
  cl : Cls K C
  no : ∀ f ∈ ns, NoAttr K C f
  nd : ns.Nodup
  sz : ns.length < 1000
theorem l_fld {C : Addr} {ns : List Str} {f : Str} {ta : TE} (F : Fld K C ns) (i : Nat) (hi : ns[i]? = some f) (h : lE W ta ρ M (fun x M1 => ∃ a ds d, x = .ref a ∧ M1 a = some (.ins C ns ds) ∧ ds[i]? = some d ∧ Q d M1) X) : lE W (tFld K ta f) ρ M Q X := fun σ H k s e p px =>
  h σ H _ s e (fun u x H1 M1 q1 s1 t1 r1 => by
    obtain ⟨a, ds, d, rfl, hm, hd, q⟩ := q1
    cases r1
    obtain ⟨dx, vs, ha, rl, hl⟩ := s1.ins hm
    obtain ⟨v, hv, rv⟩ := rl.getD hd
    exact ⟨a, C, dx, _, v, rfl, ha, F.cl, F.no f (List.mem_of_getElem? hi), zip_look F.nd hi hv, p _ _ H1 M1 q s1 t1 rv⟩) px
theorem s_fld {C : Addr} {ns : List Str} {f : Str} {ta tv : TE} (F : Fld K C ns) (i : Nat) (hi : ns[i]? = some f) (h : lE W tv ρ M (fun y M1 => lE W ta ρ M1 (fun x M2 => ∃ a ds, x = .ref a ∧ M2 a = some (.ins C ns ds) ∧ A.nx ρ (upM M2 a (.ins C ns (ds.set i y)))) X) X) : lS W (sFld K ta tv f) ρ M A X := fun σ H D s e p px =>
  h σ H _ s e (fun w y H1 M1 q1 s1 t1 r1 => q1 σ H1 _ s1 (e.mono t1) (fun u x H2 M2 q2 s2 t2 r2 => by
    obtain ⟨a, ds, rfl, hm, q⟩ := q2
    cases r2
    obtain ⟨dx, vs, ha, rl, hl⟩ := s2.ins hm
    refine ⟨a, C, dx, _, rfl, ha, F.cl, F.no f (List.mem_of_getElem? hi), ?_, ?_⟩
    · rw [List.length_zip]
      have := F.sz
      omega
    · rw [zip_put F.nd hi (by rw [hl, rl.length])]
      refine p.nx _ _ _ _ q (s2.set hm ⟨dx, _, rfl, RpL.set (r1.mono t2) i rl, by rw [List.length_set]; exact hl⟩) ((t1.trans t2).trans (Stp.set hm)) (e.mono ((t1.trans t2).trans (Stp.set hm)))) (px.mono t1)) px
/-- a field's first store -/
theorem s_fldN {C : Addr} {ns ns0 : List Str} {f : Str} {ta tv : TE} (F : Fld K C ns) (i : Nat) (hi : ns[i]? = some f) (h0 : ns0 = ns.take i) (h : lE W tv ρ M (fun y M1 => lE W ta ρ M1 (fun x M2 => ∃ a ds, x = .ref a ∧ M2 a = some (.ins C ns0 ds) ∧ A.nx ρ (upM M2 a (.ins C (ns0 ++ [f]) (ds ++ [y])))) X) X) : lS W (sFld K ta tv f) ρ M A X := fun σ H D s e p px =>
  h σ H _ s e (fun w y H1 M1 q1 s1 t1 r1 => q1 σ H1 _ s1 (e.mono t1) (fun u x H2 M2 q2 s2 t2 r2 => by
    obtain ⟨a, ds, rfl, hm, q⟩ := q2
    cases r2
    obtain ⟨dx, vs, ha, rl, hl⟩ := s2.ins hm
    have hlt : i < ns.length := (List.getElem?_eq_some_iff.mp hi).1
    have nf : f ∉ ns0 := fun z => by
      rw [h0] at z
      obtain ⟨j, hj, e⟩ := List.getElem_of_mem z
      rw [List.length_take] at hj
      rw [List.getElem_take] at e
      have := (List.getElem?_eq_some_iff.mp hi).2
      exact List.pairwise_iff_getElem.mp F.nd j i (by omega) hlt (by omega) (by rw [e, this])
    refine ⟨a, C, dx, _, rfl, ha, F.cl, F.no f (List.mem_of_getElem? hi), ?_, ?_⟩
    · rw [List.length_zip, h0, List.length_take]
      have := F.sz
      omega
    · rw [zip_putN nf (by rw [hl, rl.length])]
      refine p.nx _ _ _ _ q (s2.set hm ⟨dx, _, rfl, rl.append (.cons (r1.mono t2) .nil), by rw [List.length_append, List.length_append, hl]; rfl⟩) ((t1.trans t2).trans (Stp.set hm)) (e.mono ((t1.trans t2).trans (Stp.set hm)))) (px.mono t1)) px

/-! ### what is walked -/
/-- J yields the data ds, as long as C holds of the cells -/
structure Wk (J : It) (ds : List D) (C : Mh → Prop) (H1 : Hp) (M1 : Mh) : Prop where
  go : ∀ i H M, Sta M H → Stp H1 M1 H M → C M → i < ds.length → J.go i H ∧ ∀ x H', J.yld i H x H' → Sta M H' ∧ Stp H M H' M ∧ ∃ d, ds[i]? = some d ∧ Rp (imm H' M) x d
  stop : ∀ H M, Sta M H → Stp H1 M1 H M → C M → J.stop ds.length H
def lI (W : WX) (wi : TI) (ρ : En) (M : Mh) (R : List D → (Mh → Prop) → Mh → Prop) (X : XD) : Prop := ∀ σ H k, Sta M H → RpE (imm H M) σ ρ → (∀ J H' M' ds C, R ds C M' → Sta M' H' → Stp H M H' M' → Wk J ds C H' M' → k J H') → Px H M X W → wi σ H k
/-- the data is a list, as it stands -/
def isL (M : Mh) (d : D) (ds : List D) : Prop := d = .lst ds ∨ ∃ a, d = .ref a ∧ M a = some (.lst ds)
theorem isL_sq {M : Mh} {H : Hp} {v : V} {d : D} {ds : List D} (h : isL M d ds) (s : Sta M H) (r : Rp (imm H M) v d) : ∃ a vs, v = .ref a ∧ H a = some (.lst vs) ∧ RpL (imm H M) vs ds := by
  rcases h with rfl | ⟨a, rfl, m⟩
  · cases r with
    | lst ha hr => exact ⟨_, _, rfl, (of_imm ha).1, hr⟩
  · cases r
    obtain ⟨vs, ha, hr⟩ := s.lst m
    exact ⟨a, vs, rfl, ha, hr⟩
theorem isL_lst {M : Mh} {ds : List D} : isL M (.lst ds) ds := .inl rfl
theorem isL_ref {M : Mh} {a : Addr} {ds : List D} (h : M a = some (.lst ds)) : isL M (.ref a) ds := .inr ⟨a, rfl, h⟩
theorem wk_list {M1 : Mh} {H1 : Hp} {v : V} {d : D} {a : Addr} {ds : List D} (r : Rp (imm H1 M1) v d) (hv : v = .ref a) : Wk (Itl K a) ds (fun M => isL M d ds) H1 M1 where
  go := fun i H M s t c hi => by
    obtain ⟨b, vs, eb, hb, hr⟩ := isL_sq c s (r.mono t)
    have eab : b = a := V.ref.inj (eb.symm.trans hv)
    subst eab
    have hi' : i < vs.length := by rw [hr.length]; exact hi
    refine ⟨⟨vs, vs[i], SqL.of hb, List.getElem?_eq_getElem hi'⟩, fun x H' y => ?_⟩
    obtain ⟨e, y⟩ := y
    subst e
    have hx := y vs (SqL.of hb)
    obtain ⟨d', h1, h2⟩ := hr.get hx
    exact ⟨s, Kn.refl _, d', h1, h2⟩
  stop := fun H M s t c => by
    obtain ⟨b, vs, eb, hb, hr⟩ := isL_sq c s (r.mono t)
    have eab : b = a := V.ref.inj (eb.symm.trans hv)
    subst eab
    exact ⟨vs, SqL.of hb, Nat.le_of_eq hr.length⟩
theorem i_list {tl : TE} {R : List D → (Mh → Prop) → Mh → Prop} (h : lE W tl ρ M (fun d M1 => ∃ ds, isL M1 d ds ∧ R ds (fun M2 => isL M2 d ds) M1) X) : lI W (iList K tl) ρ M R X := fun σ H k s e p px =>
  h σ H _ s e (fun v d H1 M1 q1 s1 t1 r1 => by
    obtain ⟨ds, hd, q⟩ := q1
    obtain ⟨a, vs, rfl, ha, hr⟩ := isL_sq hd s1 r1
    exact ⟨a, rfl, ⟨vs, SqL.of ha⟩, p _ H1 M1 ds _ q s1 t1 (wk_list r1 rfl)⟩) px
theorem i_tup {tl : TE} {R : List D → (Mh → Prop) → Mh → Prop} (h : lE W tl ρ M (fun d M1 => ∃ ds, d = .tup ds ∧ R ds (fun _ => True) M1) X) : lI W (iTup K tl) ρ M R X := fun σ H k s e p px =>
  h σ H _ s e (fun v d H1 M1 q1 s1 t1 r1 => by
    obtain ⟨ds, rfl, q⟩ := q1
    cases r1 with
    | tup ha hr =>
      rename_i a vs
      refine ⟨a, rfl, ⟨vs, SqT.of (of_imm ha).1⟩, p _ H1 M1 ds _ q s1 t1 ⟨fun i H M s t _ hi => ?_, fun H M s t _ => ?_⟩⟩
      · have hb := (of_imm (t _ _ ha)).1
        have hi' : i < vs.length := by rw [hr.length]; exact hi
        refine ⟨⟨vs, vs[i], SqT.of hb, List.getElem?_eq_getElem hi'⟩, fun x H' y => ?_⟩
        obtain ⟨e, y⟩ := y
        subst e
        obtain ⟨d', h1, h2⟩ := hr.get (y vs (SqT.of hb))
        exact ⟨s, Kn.refl _, d', h1, h2.mono t⟩
      · exact ⟨vs, SqT.of (of_imm (t _ _ ha)).1, Nat.le_of_eq hr.length⟩) px
theorem i_str {te : TE} {R : List D → (Mh → Prop) → Mh → Prop} (h : lE W te ρ M (fun d M1 => ∃ cs, d = .str cs ∧ R (cs.map fun c => D.str [c]) (fun _ => True) M1) X) : lI W (iStr te) ρ M R X := fun σ H k s e p px =>
  h σ H _ s e (fun v d H1 M1 q1 s1 t1 r1 => by
    obtain ⟨cs, rfl, q⟩ := q1
    cases r1
    have sz : (S cs).cps.size = cs.length := by simp [SX.S]
    refine ⟨S cs, rfl, p _ H1 M1 _ _ q s1 t1 ⟨fun i H M s t _ hi => ?_, fun H M s t _ => ?_⟩⟩
    · rw [List.length_map] at hi
      refine ⟨(show i < (S cs).cps.size by omega), fun x H' y => ?_⟩
      obtain ⟨e, c, hc, y⟩ := y
      subst e
      subst y
      have hc' : cs[i]? = some c := by simpa [SX.S] using hc
      exact ⟨s, Kn.refl _, .str [c], by rw [List.getElem?_map, hc']; rfl, .str [c]⟩
    · rw [List.length_map]
      exact Nat.le_of_eq sz) px
/-- the whole numbers lo, lo + 1, .. -/
def rngD (lo : Int) (n : Nat) : List D := (List.range n).map fun (i : Nat) => D.int (lo + (i : Int))
theorem wk_rng {lo : Int} {n : Nat} {H1 : Hp} {M1 : Mh} : Wk (Itr lo n) (rngD lo n) (fun _ => True) H1 M1 where
  go := fun i H M s t _ hi => by
    unfold rngD at hi
    rw [List.length_map, List.length_range] at hi
    refine ⟨hi, fun x H' y => ?_⟩
    obtain ⟨e, y⟩ := y
    subst e
    subst y
    refine ⟨s, Kn.refl _, .int (lo + i), ?_, .int _⟩
    unfold rngD
    rw [List.getElem?_map, List.getElem?_range hi]
    rfl
  stop := fun H M s t _ => by
    show n ≤ (rngD lo n).length
    unfold rngD
    rw [List.length_map, List.length_range]
    exact Nat.le_refl _
theorem i_rng1 {ta : TA} {R : List D → (Mh → Prop) → Mh → Prop} (h : lA W ta ρ M (fun ds M1 => ∃ j : Int, ds = [.int j] ∧ -1000000 ≤ j ∧ j < 1000000 ∧ R (rngD 0 j.toNat) (fun _ => True) M1) X) : lI W (iRng1 ta) ρ M R X := fun σ H k s e p px =>
  h σ H _ s e (fun vs ds H1 M1 q1 s1 t1 r1 => by
    obtain ⟨j, rfl, h1, h2, q⟩ := q1
    cases r1 with
    | cons ra rb =>
      cases ra
      cases rb
      exact ⟨j, rfl, by omega, by omega, p _ H1 M1 _ _ q s1 t1 wk_rng⟩) px
theorem i_rng2 {ta : TA} {R : List D → (Mh → Prop) → Mh → Prop} (h : lA W ta ρ M (fun ds M1 => ∃ i j : Int, ds = [.int i, .int j] ∧ -1000000 ≤ i ∧ i < 1000000 ∧ -1000000 ≤ j ∧ j < 1000000 ∧ R (rngD i (j - i).toNat) (fun _ => True) M1) X) : lI W (iRng2 ta) ρ M R X := fun σ H k s e p px =>
  h σ H _ s e (fun vs ds H1 M1 q1 s1 t1 r1 => by
    obtain ⟨i, j, rfl, h1, h2, h3, h4, q⟩ := q1
    cases r1 with
    | cons ra rb =>
      cases ra
      cases rb with
      | cons rb rc =>
        cases rb
        cases rc
        exact ⟨i, j, rfl, ⟨by omega, by omega, by omega, by omega⟩, p _ H1 M1 _ _ q s1 t1 wk_rng⟩) px
/-- a for loop by an invariant over the turn, the slots, the cells -/
theorem s_for {wi : TI} {g : TG} {tb : TS} (h : lI W wi ρ M (fun ds C M1 => ∃ I : Nat → En → Mh → Prop, I 0 ρ M1 ∧ (∀ i ρ' M', I i ρ' M' → C M') ∧
      (∀ i ρ' M' d, ds[i]? = some d → I i ρ' M' → lG W g d ρ' M' (fun ρ2 M2 => lS W tb ρ2 M2 ⟨I (i + 1), A.rt, A.nx, I (i + 1)⟩ X) X) ∧ (∀ ρ' M', I ds.length ρ' M' → A.nx ρ' M')) X) : lS W (tFor wi g tb) ρ M A X := fun σ H D s e p px =>
  h σ H _ s e (fun J H1 M1 ds C q1 s1 t1 wk => by
    obtain ⟨I, h0, hC, hs, hd⟩ := q1
    refine ⟨fun i m σ' H' => ∃ ρ' M', m = ds.length - i ∧ i ≤ ds.length ∧ I i ρ' M' ∧ Sta M' H' ∧ Stp H1 M1 H' M' ∧ RpE (imm H' M') σ' ρ', ⟨_, ρ, M1, rfl, Nat.zero_le _, h0, s1, Kn.refl _, e.mono t1⟩, ?_⟩
    rintro i m σ' H' ⟨ρ', M', rfl, hi, hI, s', t', e'⟩
    by_cases hlt : i < ds.length
    · obtain ⟨g1, g2⟩ := wk.go i H' M' s' t' (hC _ _ _ hI) hlt
      refine .inr ⟨g1, fun σ2 H2 => ∃ ρ2 M2, I (i + 1) ρ2 M2 ∧ Sta M2 H2 ∧ Stp H1 M1 H2 M2 ∧ RpE (imm H2 M2) σ2 ρ2, fun σ2 H2 ⟨ρ2, M2, a1, a2, a3, a4⟩ => ⟨ds.length - (i + 1), by omega, ρ2, M2, rfl, hlt, a1, a2, a3, a4⟩, fun x H3 y => ?_⟩
      obtain ⟨s3, t3, d, hdi, r3⟩ := g2 x H3 y
      have T3 := t'.trans t3
      refine hs i ρ' M' d hdi hI x σ' H3 _ s3 (e'.mono t3) r3 (fun σ4 ρ4 H4 M4 q4 s4 t4 e4 => ?_) (px.mono (t1.trans T3))
      have T4 := T3.trans t4
      refine q4 σ4 H4 _ s4 e4 ⟨fun σ5 ρ5 H5 M5 q5 s5 t5 e5 => ⟨ρ5, M5, q5, s5, T4.trans t5, e5⟩, p.rt.mono (t1.trans T4), p.nx.mono (t1.trans T4), fun σ5 ρ5 H5 M5 q5 s5 t5 e5 => ⟨ρ5, M5, q5, s5, T4.trans t5, e5⟩⟩ (px.mono (t1.trans T4))
    · have ei : i = ds.length := by omega
      subst ei
      exact .inl ⟨wk.stop H' M' s' t' (hC _ _ _ hI), p.nx.mono t1 _ _ H' M' (hd _ _ hI) s' t' e'⟩) px
/-- slots of a comprehension's own names -/
def wipeD (ρ : En) : List Nat → En
  | [] => ρ
  | v :: vs => (wipeD ρ vs).set v none
theorem RpE.wipe {I : Hp} {σ : L2.St} {ρ : En} (e : RpE I σ ρ) : ∀ vs : List Nat, RpE I (wipe σ vs) (wipeD ρ vs)
  | [] => e
  | v :: vs => RpE.set (v := none) (d := none) trivial v (RpE.wipe e vs)
/-- targets of a comprehension: a name's slot, or a tuple of such, leave nothing else changed -/
def Wip (g : TG) (vs : List Nat) : Prop := ∀ v σ H (Q : L2.St → Hp → Prop), g v σ H Q → g v σ H fun σ2 H2 => wipe σ2 vs = wipe σ vs ∧ Q σ2 H2
end

/-! ### list comprehensions -/
theorem wipe_at {σ : L2.St} : ∀ {vs : List Nat} (j : Nat), (wipe σ vs)[j]? = if j ∈ vs ∧ j < σ.length then some none else σ[j]?
  | [], j => by rw [if_neg (fun h => absurd h.1 (by simp))]; rfl
  | v :: vs, j => by
    show ((wipe σ vs).set v none)[j]? = _
    rw [List.getElem?_set, wipe_length, wipe_at j]
    by_cases h1 : v = j
    · subst h1
      by_cases h2 : v < σ.length
      · rw [if_pos rfl, if_pos h2, if_pos ⟨List.mem_cons_self, h2⟩]
      · rw [if_pos rfl, if_neg h2, if_neg (fun h => h2 h.2)]
        exact (List.getElem?_eq_none (by omega)).symm
    · rw [if_neg h1]
      by_cases h3 : j ∈ vs ∧ j < σ.length
      · rw [if_pos h3, if_pos ⟨List.mem_cons_of_mem _ h3.1, h3.2⟩]
      · rw [if_neg h3, if_neg (fun h => h3 ⟨(List.mem_cons.mp h.1).resolve_left (fun z => h1 z.symm), h.2⟩)]
theorem wipe_set {σ : L2.St} {vs : List Nat} {i : Nat} {v : Option V} (h : i ∈ vs) : wipe (σ.set i v) vs = wipe σ vs := by
  refine List.ext_getElem? fun j => ?_
  rw [wipe_at, wipe_at, List.length_set]
  by_cases h1 : j ∈ vs ∧ j < σ.length
  · rw [if_pos h1, if_pos h1]
  · rw [if_neg h1, if_neg h1, List.getElem?_set]
    by_cases h2 : i = j
    · subst h2
      rw [if_pos rfl]
      have h3 : ¬ i < σ.length := fun z => h1 ⟨h, z⟩
      rw [if_neg h3]
      exact (List.getElem?_eq_none (by omega)).symm
    · rw [if_neg h2]
theorem wipe_wipe {σ : L2.St} {vs : List Nat} : wipe (wipe σ vs) vs = wipe σ vs := by
  refine List.ext_getElem? fun j => ?_
  rw [wipe_at, wipe_length, wipe_at]
  by_cases h1 : j ∈ vs ∧ j < σ.length
  · rw [if_pos h1, if_pos h1]
  · rw [if_neg h1]
def WipG (g : TG) (vs : List Nat) : Prop := ∀ (τ : L2.St) v σ H (Q Q' : L2.St → Hp → Prop), wipe σ vs = τ → g v σ H Q → (∀ σ2 H2, wipe σ2 vs = τ → Q σ2 H2 → Q' σ2 H2) → g v σ H Q'
def WipGs (g : TGs) (vs : List Nat) : Prop := ∀ (τ : L2.St) xs σ H (Q Q' : L2.St → Hp → Prop), wipe σ vs = τ → g xs σ H Q → (∀ σ2 H2, wipe σ2 vs = τ → Q σ2 H2 → Q' σ2 H2) → g xs σ H Q'
theorem wip_name {i : Nat} {vs : List Nat} (h : i ∈ vs) : WipG (gName i) vs := fun τ v σ H Q Q' e q f => f _ _ (by rw [wipe_set h]; exact e) q
theorem wip_nil {vs : List Nat} : WipGs gNil vs := fun τ xs σ H Q Q' e q f => ⟨q.1, f _ _ e q.2⟩
theorem wip_cons {t : TG} {u : TGs} {vs : List Nat} (h : WipG t vs) (h2 : WipGs u vs) : WipGs (gCons t u) vs := fun τ xs σ H Q Q' e ⟨v, r, e1, q⟩ f =>
  ⟨v, r, e1, h τ v σ H _ _ e q fun σ2 H2 e2 q2 => h2 τ r σ2 H2 Q Q' e2 q2 f⟩
theorem wip_tup {K : PySem.W.Frag} {n : Nat} {t : TGs} {vs : List Nat} (h : WipGs t vs) : WipG (gTup K n t) vs := fun τ v σ H Q Q' e ⟨a, xs, e1, hs, hn, q⟩ f => ⟨a, xs, e1, hs, hn, h τ xs σ H Q Q' e q f⟩

section
variable {W : WX} {X : XD} {ρ : En} {M : Mh} {Q : D → Mh → Prop} {A : DE} {K : PySem.W.Frag}
/-- [elt for target in iter if ..], by an invariant over the turn, what is gathered, the cells (the new list at a among them) -/
theorem l_lc {wi : TI} {g : TG} {tt : TT} {te : TE} {vs : List Nat} (hw : WipG g vs) (h : lI W wi ρ M (fun ds C M1 => ∀ a, M1 a = none → ∃ I : Nat → List D → Mh → Prop, I 0 [] (upM M1 a (.lst [])) ∧
      (∀ i acc M', I i acc M' → C M' ∧ M' a = some (.lst acc) ∧ acc.length ≤ 100000) ∧
      (∀ i acc M' d, ds[i]? = some d → I i acc M' → lG W0 g d (wipeD ρ vs) M' (fun ρ2 M2 => lT W0 tt ρ2 M2 (fun b M3 => (b = true → lE W0 te ρ2 M3 (fun y M4 => M4 a = some (.lst acc) ∧ I (i + 1) (acc ++ [y]) (upM M4 a (.lst (acc ++ [y])))) noX) ∧ (b = false → I (i + 1) acc M3)) noX) noX) ∧
      (∀ acc M', I ds.length acc M' → Q (.ref a) M')) X) : lE W (tLc wi g tt te vs) ρ M Q X := fun σ H k s e p px =>
  h σ H _ s e (fun J H1 M1 ds C q1 s1 t1 wk a ha => by
    obtain ⟨I, h0, hC, hs, hd⟩ := q1 a (s1.fresh ha)
    have tn : Stp H1 M1 (upd H1 a (.lst [])) (upM M1 a (.lst [])) := Stp.newC ha
    refine ⟨fun i m H' => ∃ acc M', m = ds.length - i ∧ i ≤ ds.length ∧ I i acc M' ∧ Sta M' H' ∧ Stp H1 M1 H' M', ⟨_, [], _, rfl, Nat.zero_le _, h0, s1.newC ha ⟨[], rfl, .nil⟩, tn⟩, ?_⟩
    rintro i m H' ⟨acc, M', rfl, hi, hI, s', t'⟩
    by_cases hlt : i < ds.length
    · obtain ⟨g1, g2⟩ := wk.go i H' M' s' t' (hC _ _ _ hI).1 hlt
      refine .inr ⟨g1, fun H2 => ∃ acc2 M2, I (i + 1) acc2 M2 ∧ Sta M2 H2 ∧ Stp H1 M1 H2 M2, fun H2 ⟨acc2, M2, a1, a2, a3⟩ => ⟨ds.length - (i + 1), by omega, acc2, M2, rfl, hlt, a1, a2, a3⟩, fun x H3 y => ?_⟩
      obtain ⟨s3, t3, d, hdi, r3⟩ := g2 x H3 y
      have T3 := t'.trans t3
      refine hw (wipe σ vs) x (wipe σ vs) H3 (fun σ2 H2 => tt σ2 H2 fun b H5 => if b = true then te σ2 H5 fun y H6 => ∃ acc, H6 a = some (.lst acc) ∧ acc.length < sizeLine ∧ ∃ acc2 M2, I (i + 1) acc2 M2 ∧ Sta M2 (upd H6 a (.lst (acc ++ [y]))) ∧ Stp H1 M1 (upd H6 a (.lst (acc ++ [y]))) M2 else ∃ acc2 M2, I (i + 1) acc2 M2 ∧ Sta M2 H5 ∧ Stp H1 M1 H5 M2) _ wipe_wipe ?_ fun σ2 H2 e2 q2 => ⟨e2, q2⟩
      refine hs i acc M' d hdi hI x _ H3 _ s3 (RpE.wipe (e.mono (t1.trans T3)) vs) r3 (fun σ4 ρ4 H4 M4 q4 s4 t4 e4 => ?_) px0
      refine q4 σ4 H4 _ s4 e4 (fun b H5 M5 q5 s5 t5 => ?_) px0
      cases b with
      | false => exact iteF ⟨acc, M5, q5.2 rfl, s5, T3.trans (t4.trans t5)⟩
      | true =>
        refine iteT (q5.1 rfl σ4 H5 _ s5 (e4.mono t5) (fun v y H6 M6 q6 s6 t6 r6 => ?_) px0)
        obtain ⟨q7, q8⟩ := q6
        obtain ⟨vacc, hv, rv⟩ := s6.lst q7
        refine ⟨vacc, hv, ?_, acc ++ [y], _, q8, s6.set q7 ⟨_, rfl, rv.append (.cons r6 .nil)⟩, T3.trans (t4.trans (t5.trans (t6.trans (Stp.set q7))))⟩
        rw [rv.length]
        exact line_lt (hC _ _ _ hI).2.2
    · have ei : i = ds.length := by omega
      subst ei
      exact .inl ⟨wk.stop H' M' s' t' (hC _ _ _ hI).1, p _ _ H' M' (hd _ _ hI) s' (t1.trans t') (.ref a)⟩) px
/-- cells are known to others -/
abbrev KnM (M M' : Mh) : Prop := ∀ b c, M b = some c → M' b = some c
/-- a comprehension that changes nothing: item by item a value, or nothing -/
theorem l_lcP {wi : TI} {g : TG} {tt : TT} {te : TE} {vs : List Nat} (hw : WipG g vs) (h : lI W wi ρ M (fun ds C M1 => ∃ F : D → Option D, ds.length ≤ 100000 ∧ (∀ M', KnM M1 M' → C M') ∧
      (∀ d, d ∈ ds → ∀ M', KnM M1 M' → lG W0 g d (wipeD ρ vs) M' (fun ρ2 M2 => lT W0 tt ρ2 M2 (fun b M3 => (b = true → lE W0 te ρ2 M3 (fun y M4 => M4 = M' ∧ F d = some y) noX) ∧ (b = false → M3 = M' ∧ F d = none)) noX) noX) ∧
      Q (.lst (ds.filterMap F)) M1) X) : lE W (tLc wi g tt te vs) ρ M Q X := by
  refine l_frz (l_lc hw ?_)
  refine fun σ H k s e p px => h σ H k s e (fun J H' M' ds C q s' t' wk => ?_) px
  refine p J H' M' ds C (fun a ha => ?_) s' t' wk
  obtain ⟨F, hlen, hC, hF, hQ⟩ := q
  have kn : ∀ c, KnM M' (upM M' a c) := fun c b d hb => by
    have n : b ≠ a := fun z => by
      rw [z, ha] at hb
      cases hb
    rw [upM_ne n]
    exact hb
  have lenF : ∀ i, ((ds.take i).filterMap F).length ≤ 100000 := fun i => by
    have h1 := List.length_filterMap_le F (ds.take i)
    have h2 := List.length_take_le i ds
    have h3 : (ds.take i).length ≤ ds.length := by rw [List.length_take]; omega
    omega
  refine ⟨fun i acc M2 => M2 = upM M' a (.lst acc) ∧ acc = (ds.take i).filterMap F, ⟨rfl, rfl⟩, ?_, ?_, ?_⟩
  · rintro i acc M2 ⟨rfl, rfl⟩
    exact ⟨hC _ (kn _), upM_same, lenF i⟩
  · rintro i acc M2 d hd ⟨rfl, e1⟩
    have hlt := (List.getElem?_eq_some_iff.mp hd).1
    have et : ds.take (i + 1) = ds.take i ++ [d] := by rw [List.take_add_one, hd]; rfl
    refine fun v σ2 H2 k2 s2 e2 r2 p2 px2 => hF d (List.mem_of_getElem? hd) _ (kn _) v σ2 H2 k2 s2 e2 r2 (fun σ3 ρ3 H3 M3 q3 s3 t3 e3 => p2 _ _ _ _ ?_ s3 t3 e3) px2
    refine fun σ4 H4 k4 s4 e4 p4 px4 => q3 σ4 H4 k4 s4 e4 (fun b H5 M5 q5 s5 t5 => p4 _ _ _ ⟨fun hb => ?_, fun hb => ?_⟩ s5 t5) px4
    · refine fun σ6 H6 k6 s6 e6 p6 px6 => q5.1 hb σ6 H6 k6 s6 e6 (fun v7 y H7 M7 q7 s7 t7 r7 => p6 _ _ _ _ ?_ s7 t7 r7) px6
      obtain ⟨rfl, ef⟩ := q7
      refine ⟨upM_same, upM_upM, ?_⟩
      rw [et, List.filterMap_append, ← e1]
      simp [ef]
    · obtain ⟨rfl, ef⟩ := q5.2 hb
      refine ⟨rfl, ?_⟩
      rw [et, List.filterMap_append, ← e1]
      simp [ef]
  · rintro acc M2 ⟨rfl, e1⟩
    rw [List.take_length] at e1
    refine ⟨a, acc, rfl, upM_same, ?_⟩
    rw [deM_upM ha, e1]
    exact hQ

/-! ### built-in calls, methods, slices, by values -/
theorem l_cb {r : List V → Hp → VK → Prop} {ta : TA} (h : lA W ta ρ M (fun xs M1 => lC r xs M1 Q) X) : lE W (tCB r ta) ρ M Q X := fun σ H k s e p px =>
  h σ H _ s e (fun vs xs H1 M1 q1 s1 t1 r1 => q1 vs H1 k s1 r1 (p.mono t1)) px
def isS : D → Prop
  | .str _ => True
  | _ => False
theorem l_bmS {r : V → List V → Hp → VK → Prop} {to : TE} {ta : TA} (h : lE W to ρ M (fun x M1 => (∃ z, x = .str z) ∧ lA W ta ρ M1 (fun xs M2 => lM r x xs M2 Q) X) X) : lE W (tBM K "str" r to ta) ρ M Q X := fun σ H k s e p px =>
  h σ H _ s e (fun u x H1 M1 q1 s1 t1 r1 => by
    obtain ⟨⟨z, rfl⟩, q⟩ := q1
    cases r1
    exact ⟨rfl, q σ H1 _ s1 (e.mono t1) (fun vs xs H2 M2 q2 s2 t2 r2 => q2 _ vs H2 k s2 (.str z) r2 (p.mono (t1.trans t2))) (px.mono t1)⟩) px
theorem l_bm0S {r : V → List V → Hp → VK → Prop} {to : TE} (h : lE W to ρ M (fun x M1 => (∃ z, x = .str z) ∧ lM r x [] M1 Q) X) : lE W (tBM0 K "str" r to) ρ M Q X := fun σ H k s e p px =>
  h σ H _ s e (fun u x H1 M1 q1 s1 t1 r1 => by
    obtain ⟨⟨z, rfl⟩, q⟩ := q1
    cases r1
    exact ⟨rfl, q _ [] H1 k s1 (.str z) .nil (p.mono t1)⟩) px
theorem l_bmL {r : V → List V → Hp → VK → Prop} {to : TE} {ta : TA} (h : lE W to ρ M (fun x M1 => (∃ ds, isL M1 x ds) ∧ lA W ta ρ M1 (fun xs M2 => lM r x xs M2 Q) X) X) : lE W (tBM K "list" r to ta) ρ M Q X := fun σ H k s e p px =>
  h σ H _ s e (fun u x H1 M1 q1 s1 t1 r1 => by
    obtain ⟨⟨ds, hl⟩, q⟩ := q1
    obtain ⟨a, vs, rfl, ha, _⟩ := isL_sq hl s1 r1
    exact ⟨.inl ⟨rfl, vs, SqL.of ha⟩, q σ H1 _ s1 (e.mono t1) (fun vs xs H2 M2 q2 s2 t2 r2 => q2 _ vs H2 k s2 (r1.mono t2) r2 (p.mono (t1.trans t2))) (px.mono t1)⟩) px
theorem l_bm0L {r : V → List V → Hp → VK → Prop} {to : TE} (h : lE W to ρ M (fun x M1 => (∃ ds, isL M1 x ds) ∧ lM r x [] M1 Q) X) : lE W (tBM0 K "list" r to) ρ M Q X := fun σ H k s e p px =>
  h σ H _ s e (fun u x H1 M1 q1 s1 t1 r1 => by
    obtain ⟨⟨ds, hl⟩, q⟩ := q1
    obtain ⟨a, vs, rfl, ha, _⟩ := isL_sq hl s1 r1
    exact ⟨.inl ⟨rfl, vs, SqL.of ha⟩, q _ [] H1 k s1 r1 .nil (p.mono t1)⟩) px
theorem l_sl {r : V → Option Int → Option Int → Hp → VK → Prop} {te : TE} {tl th : TO} (h : lE W te ρ M (fun x M1 => lO W tl ρ M1 (fun lo M2 => lO W th ρ M2 (fun hi M3 => lSl r x lo hi M3 Q) X) X) X) : lE W (tSl r te tl th) ρ M Q X := fun σ H k s e p px =>
  h σ H _ s e (fun u x H1 M1 q1 s1 t1 r1 => q1 σ H1 _ s1 (e.mono t1) (fun lo H2 M2 q2 s2 t2 => q2 σ H2 _ s2 (e.mono (t1.trans t2)) (fun hi H3 M3 q3 s3 t3 => q3 u H3 k s3 (r1.mono (t2.trans t3)) (p.mono (t1.trans (t2.trans t3)))) (px.mono (t1.trans t2))) (px.mono t1)) px
theorem o_none {QO : Option Int → Mh → Prop} (q : QO none M) : lO W tNoPart ρ M QO X := fun _ H _ s _ p _ => p none H M q s (Kn.refl _)
theorem o_some {te : TE} {QO : Option Int → Mh → Prop} (h : lE W te ρ M (fun d M1 => ∃ i, d = .int i ∧ QO (some i) M1) X) : lO W (tPart te) ρ M QO X := fun σ H k s e p px =>
  h σ H _ s e (fun u x H1 M1 q1 s1 t1 r1 => by
    obtain ⟨i, rfl, q⟩ := q1
    cases r1
    exact ⟨i, rfl, p _ H1 M1 q s1 t1⟩) px
/-! truth -/
theorem t_truth {ta : TE} {QT : Bool → Mh → Prop} (h : lE W ta ρ M (fun x M1 => ∃ b, (∀ u H1, Sta M1 H1 → Rp (imm H1 M1) u x → TruV K u H1 b) ∧ QT b M1) X) : lT W (fun σ H Q => ta σ H fun x H' => ∃ k, TruV K x H' k ∧ Q k H') ρ M QT X := fun σ H k s e p px =>
  h σ H _ s e (fun u x H1 M1 q1 s1 t1 r1 => by
    obtain ⟨b, hb, q⟩ := q1
    exact ⟨b, hb u H1 s1 r1, p b H1 M1 q s1 t1⟩) px
theorem tru_list {x : D} {ds : List D} (h : isL M x ds) : ∀ u H1, Sta M H1 → Rp (imm H1 M) u x → TruV K u H1 (!ds.isEmpty) := fun u H1 s r => by
  obtain ⟨a, vs, rfl, ha, hr⟩ := isL_sq h s r
  refine .inl ⟨vs, SqL.of ha, ?_⟩
  cases hr <;> rfl
theorem tru_dic {a : Addr} {kvs : List (Key × D)} (h : M a = some (.dic kvs)) : ∀ u H1, Sta M H1 → Rp (imm H1 M) u (.ref a) → TruV K u H1 (!kvs.isEmpty) := fun u H1 s r => by
  cases r
  obtain ⟨vs, ha, hr⟩ := s.dic h
  refine .inr (.inr ⟨vs, ha, ?_⟩)
  cases hr <;> rfl
theorem tru_bl {b : Bool} : ∀ u H1, Sta M H1 → Rp (imm H1 M) u (.bl b) → TruV K u H1 b := fun u H1 s r => by
  cases r
  rfl
end

/-! ### defs, methods, classes as they may be called; what they raise is wished for at the caller's slots -/
structure Cal (P : Program) (w : World) (K : PySem.W.Frag) (mg : Str → Option Value) (base : Heap) (k : Nat) (x : Str) (sp : Sp) : Prop where
  ex : ∃ (f : Addr) (fd : FuncData) (ps : List Str), FnOk P w K mg base (L2.CX P w) k f fd ps sp ∧ mg x = some (.ref f) ∧ PySem.W.keepIn K (.ref f) = true ∧ Binds K fd ps []
structure Met (P : Program) (w : World) (K : PySem.W.Frag) (mg : Str → Option Value) (base : Heap) (k : Nat) (C : Addr) (m : Str) (sp : Sp) : Prop where
  ex : ∃ (f : Addr) (fd : FuncData) (ps : List Str), Cls K C ∧ Meth K C m f ∧ FnOk P w K mg base (L2.CX P w) k f fd ps sp ∧ Binds K fd ps []
structure Mak (P : Program) (w : World) (K : PySem.W.Frag) (mg : Str → Option Value) (base : Heap) (k : Nat) (x : Str) (C : Addr) (sp : Sp) : Prop where
  ex : ∃ (f : Addr) (fd : FuncData) (ps : List Str), Mk K C f ∧ FnOk P w K mg base (L2.CX P w) k f fd ps sp ∧ mg x = some (.ref C) ∧ Binds K fd ps []
section
variable {X : Cx} {k j : Nat} {C : Addr} {x m : Str} {sp : Sp} {W : WX} {p pos apos : Pos} {e o : Expr} {es : List Expr} {ta : TE} {t : TA}
theorem pe_c (c : Cal X.prog X.w X.K X.mg X.base k x sp) (hr : Room j X.A) (hk : k ≤ j) (hg : Gl X x) (tk : Takes X W) (ha : PA X (e :: es) t)
    (hdb : (x == ("__debug__" : Str)) = false := by decide) (he : starEach (e :: es) X.env = (false, eval e X.env) :: starEach es X.env := by rfl) (hpl : (backTo pos (starEach es X.env)).any (·.1) = false := by rfl) :
    PE X (.Call (.Name x p) (e :: es) [] pos) (tCallS sp (WE W) t) := by
  obtain ⟨f, fd, ps, F, hm, kp, b⟩ := c.ex
  exact pe_callS F (hr.mono hk) hg hm kp b (fun σ => passAt tk σ) ha hdb he hpl
theorem pe_c0 (c : Cal X.prog X.w X.K X.mg X.base k x sp) (hr : Room j X.A) (hk : k ≤ j) (hg : Gl X x) (tk : Takes X W)
    (hdb : (x == ("__debug__" : Str)) = false := by decide) : PE X (.Call (.Name x p) [] [] pos) (tCallS sp (WE W) tNil) := by
  obtain ⟨f, fd, ps, F, hm, kp, b⟩ := c.ex
  refine ⟨fun pins s σ H Q I h => ?_⟩
  refine wpAny_Call_Name_kw (ld_glob I hg hm ?_ hdb)
  exact PySem.W.callWith_K0 I.kIn kp (run_fnS (us := []) F (hr.mono hk) b (passAt tk σ) I .nil h)
theorem pe_mt {pl : Sem Bool} (c : Met X.prog X.w X.K X.mg X.base k C m sp) (hr : Room j X.A) (hk : k ≤ j) (tk : Takes X W) (he : PE X o ta) (ha : PA X (e :: es) t)
    (hst : starEach (e :: es) X.env = (false, eval e X.env) :: starEach es X.env := by rfl) (hpl : (backTo pos (starEach es X.env)).any (·.1) = false := by rfl)
    (ht : eval (.Call (.Attribute o m apos) (e :: es) [] pos) X.env = (do
      let ov ← eval o X.env
      standAt apos.atName
      let (f, first) ← holding [ov] (getMethod ov m pl)
      callWith pos f first (backTo pos (starEach (e :: es) X.env)) (backToKw pos (keywordEach [] X.env))) := by rfl) :
    PE X (.Call (.Attribute o m apos) (e :: es) [] pos) (tMethS C m sp (WE W) ta t) := by
  obtain ⟨f, fd, ps, hc, hm, F, b⟩ := c.ex
  refine ⟨fun pins s σ H Q I h => ?_⟩
  refine PySem.W.methodCall_KW (pl := pl) (thn (he.run pins s σ H _ I h) fun u s1 ⟨x, H1, I1, rx, a, dx, fs, ex, ea, l, q⟩ => ?_) ht
  subst ex
  obtain rfl : u = Value.ref a := rx
  refine getmeth_ok I1 ea hc hm l ?_
  refine PySem.W.callWith_K (first := [.ref a]) (h₀ := X.base) I.ok.mod.kin hm.kp (thn (ha.run pos pins s1 σ H1 _ I1 q) fun us s2 ⟨vs, H2, I2, r, q2⟩ => ⟨I2.kIn, ?_⟩) hst hpl
  exact run_fnS (us := .ref a :: us) (vs := .ref a :: vs) F (hr.mono hk) b (passAt tk σ) I2 (.cons rfl r) q2
theorem pe_mt0 {pl : Sem Bool} (c : Met X.prog X.w X.K X.mg X.base k C m sp) (hr : Room j X.A) (hk : k ≤ j) (tk : Takes X W) (he : PE X o ta)
    (ht : eval (.Call (.Attribute o m apos) [] [] pos) X.env = (do
      let ov ← eval o X.env
      standAt apos.atName
      let (f, first) ← holding [ov] (getMethod ov m pl)
      callWith pos f first (backTo pos (starEach [] X.env)) (backToKw pos (keywordEach [] X.env))) := by rfl) :
    PE X (.Call (.Attribute o m apos) [] [] pos) (tMethS C m sp (WE W) ta tNil) := by
  obtain ⟨f, fd, ps, hc, hm, F, b⟩ := c.ex
  refine ⟨fun pins s σ H Q I h => ?_⟩
  refine PySem.W.methodCall_KW (pl := pl) (thn (he.run pins s σ H _ I h) fun u s1 ⟨x, H1, I1, rx, a, dx, fs, ex, ea, l, q⟩ => ?_) ht
  subst ex
  obtain rfl : u = Value.ref a := rx
  refine getmeth_ok I1 ea hc hm l ?_
  exact PySem.W.callWith_K0 (first := [.ref a]) I1.kIn hm.kp (run_fnS (us := [.ref a]) (vs := [.ref a]) F (hr.mono hk) b (passAt tk σ) I1 (.cons rfl .nil) q)
theorem run_mkS {pins : List (Addr × Obj)} {σ : L2.St} {H : Hp} {s : Shared} {Q : VK} {us : List Value} {vs : List V} {f : Addr} {fd : FuncData} {ps : List Str} (M : Mk X.K C f) (F : FnOk X.prog X.w X.K X.mg X.base (L2.CX X.prog X.w) k f fd ps sp) (hr : Room (k + 1) X.A) (hb : Binds X.K fd ps [])
    (tk : Takes X W) (I : Inv X pins σ H s) (r : Vals vs us)
    (h : ∀ x dx, H x = none → H dx = none → dx ≠ x → sp (.ref x :: vs) (upd (upd H dx (.own x)) x (.ins C dx [])) (fun v H2 => v = .non ∧ Q (.ref x) H2) (WE W σ)) :
    wpAny (model X.prog X.w) X.A (call (.ref C) us) (EP X pins σ Q) X.xe s := by
  have hq := h (s.heap.objs.size + 1) s.heap.objs.size (I.hok.fresh (Nat.le_succ _)) (I.hok.fresh (Nat.le_refl _)) (Nat.ne_of_lt (Nat.lt_succ_self _))
  have I2 := Inv.made (C := C) I
  have r2 : Vals (V.ref (s.heap.objs.size + 1) :: vs) (Value.ref (s.heap.objs.size + 1) :: us) := .cons rfl r
  have hl : (Value.ref (s.heap.objs.size + 1) :: us ++ []).length = ps.length := by
    rw [List.append_nil, ← r2.length]
    exact F.len _ _ _ _ hq
  have bb := hb _ (Value.ref (s.heap.objs.size + 1) :: us) I2.kIn hl
  rw [List.append_nil] at bb
  refine wpAny_call (make_map (f := f) I.kIn M.makes M.init (beq_iff_eq.mp M.fn) (codeAny_mono (F.run _ X.stack _ _ ⟨Value.ref (s.heap.objs.size + 1) :: us, []⟩ (Value.ref (s.heap.objs.size + 1) :: us) _ _ (WE W σ) (hr.make C us [])
    (I2.env0.make C us []) bb r2 hq) fun r s' hq' => ?_))
  cases r with
  | error e => exact passAt tk σ pins _ _ e s' I2 hq'
  | ok fl =>
    cases fl with
    | ret u =>
      obtain ⟨v, H', I3, rv, ev, q3⟩ := I2.after hq'
      subst ev
      exact ⟨rv, ⟨V.ref (s.heap.objs.size + 1), H', I3, rfl, q3⟩⟩
    | next => exact False.elim hq'
    | brk => exact False.elim hq'
    | cont => exact False.elim hq'
theorem pe_mk (c : Mak X.prog X.w X.K X.mg X.base k x C sp) (hr : Room j X.A) (hk : k + 1 ≤ j) (hg : Gl X x) (tk : Takes X W) (ha : PA X (e :: es) t)
    (hdb : (x == ("__debug__" : Str)) = false := by decide) (he : starEach (e :: es) X.env = (false, eval e X.env) :: starEach es X.env := by rfl) (hpl : (backTo pos (starEach es X.env)).any (·.1) = false := by rfl) :
    PE X (.Call (.Name x p) (e :: es) [] pos) (tMakeS C sp (WE W) t) := by
  obtain ⟨f, fd, ps, M, F, hm, b⟩ := c.ex
  refine ⟨fun pins s σ H Q I h => ?_⟩
  refine wpAny_Call_Name_kw (ld_glob I hg hm ?_ hdb)
  refine PySem.W.callWith_K (h₀ := X.base) I.ok.mod.kin M.kp (thn (ha.run pos pins s σ H _ I h) fun us s1 ⟨vs, H1, I1, r, q⟩ => ⟨I1.kIn, ?_⟩) he hpl
  exact run_mkS M F (hr.mono hk) b tk I1 r q
theorem pe_mk0 (c : Mak X.prog X.w X.K X.mg X.base k x C sp) (hr : Room j X.A) (hk : k + 1 ≤ j) (hg : Gl X x) (tk : Takes X W)
    (hdb : (x == ("__debug__" : Str)) = false := by decide) : PE X (.Call (.Name x p) [] [] pos) (tMakeS C sp (WE W) tNil) := by
  obtain ⟨f, fd, ps, M, F, hm, b⟩ := c.ex
  refine ⟨fun pins s σ H Q I h => ?_⟩
  refine wpAny_Call_Name_kw (ld_glob I hg hm ?_ hdb)
  exact PySem.W.callWith_K0 I.kIn M.kp (run_mkS (us := []) M F (hr.mono hk) b tk I .nil h)
end

/-! ### an own exception: its class, raised, held -/
structure ExC (K : PySem.W.Frag) (mg : Str → Option Value) (x : Str) (C : Addr) : Prop where
  gC : mg x = some (.ref C)
  ex : PySem.W.excIn K C [.type "ValueError", .type "Exception", .type "BaseException", .type "object"] "ValueError.__new__" = true
  kp : PySem.W.keepIn K (.ref C) = true
  sb : PySem.W.subIn K (.ref C) (.type "BaseException") = some true
  ty : PySem.W.typeIn K (.ref C) = some (.type "type")
  ec : ExcC K C
/-- raise X('..') -/
def tRaiseC (C : Addr) (W : WX) : TS := fun _ σ H => W (.ref C) none σ H
theorem ps_raiseC {X : Cx} {x m : Str} {C : Addr} {W : WX} {j : Nat} {p p2 pos pos2 : Pos} (c : ExC X.K X.mg x C) (hc : X.calm = true) (tk : Takes X W) (hg : Gl X x) (hdb : (x == ("__debug__" : Str)) = false := by decide) :
    PS X (.Raise (some (.Call (.Name x p) [.Constant (.str m) j p2] [] pos)) none pos2) (tRaiseC C W) :=
  ps_raise hc tk (pmk_own PySem.F.excBase_ValueError c.ex c.gC c.kp (raises_own c.sb c.ty) hg hdb)
theorem s_raiseC {W : WX} {X : XD} {ρ : En} {M : Mh} {A : DE} {C : Addr} (q : X C ρ M) : lS W (tRaiseC C W) ρ M A X := fun σ H D s e p px => px C σ ρ H M q s (Kn.refl _) e

theorem Inv.track {X : Cx} {pins : List (Addr × Obj)} {σ : L2.St} {H : Hp} {s : Shared} {a c : Addr} {oe : Obj} (I : Inv X pins σ H s) (he : s.heap.get? a = some oe) (hc : oe.cls = .ref c) (hd : oe.dict = none) (hf : ∃ vs, oe.data = .fields vs)
    (hn : H a = none) (h0 : X.s_0.heap.get? a = none) (hL : a ≠ X.env.locals) (hp : ∀ p ∈ X.pn ++ pins, p.1 ≠ a) : Inv X pins σ (upd H a (ExV c a)) s := by
  have ne0 : ∀ b o, X.s_0.heap.get? b = some o → b ≠ a := fun b o e z => by
    rw [z, h0] at e
    cases e
  have neH : ∀ b o, H b = some o → b ≠ a := fun b o e => ne_of_none e hn
  refine ⟨I.ok, I.os, I.bare, ⟨I.base.keep, I.base.slot, fun b o e n hq => ?_, I.base.there, fun b xs e => ?_, fun b o u e => ?_, fun b ps e => ?_⟩, I.loc, I.cell, ?_, fun x cc e => ?_, fun p hp' => ?_, fun b u e => ?_, I.len⟩
  · rw [upd_ne (ne0 b o e)]
    exact I.base.free b o e n hq
  · have q := I.base.tups b xs e
    rw [upd_ne (neH b _ q)]
    exact q
  · have q := I.base.frzs b o u e
    rw [upd_ne (neH b _ q)]
    exact q
  · obtain ⟨m, q⟩ := I.base.tbls b ps e
    exact ⟨m, by rw [upd_ne (neH b _ q)]; exact q⟩
  · rw [upd_ne hL.symm]
    exact I.free
  · have hne : cc ≠ a := fun z => by
      obtain ⟨v, o, ho, hdata⟩ := I.cell x cc e
      rw [z, he] at ho
      cases ho
      obtain ⟨vs, hf⟩ := hf
      rw [hf] at hdata
      cases hdata
    rw [upd_ne hne]
    exact I.freeC x cc e
  · obtain ⟨e, n, ne, nf, d⟩ := I.pin p hp'
    exact ⟨e, by rw [upd_ne (hp p hp')]; exact n, ne, nf, d⟩
  · by_cases hb : b = a
    · subst hb
      rw [upd_same] at e
      cases e
      exact ⟨⟨oe, he, hc, hd, hf⟩, ⟨oe, he⟩, fun h1 h2 ⟨o, q1, q2⟩ k => ⟨o, k o q1, q2⟩⟩
    · rw [upd_ne hb] at e
      refine (I.hok b u e).stay (fun cc v _ q => q) (fun cc q => ?_) fun cc xs q => ?_
      · rw [upd_ne (neH cc _ q)]
        exact q
      · rw [upd_ne (neH cc _ q)]
        exact q

/-- try: body except X as e: held = e, held in slot h, e in slot i -/
def wHold (K : PySem.W.Frag) (c : Value) (i h : Nat) (D : Ends) : WX := fun cls d σ H =>
  ∃ C, cls = .ref C ∧ d = none ∧ PySem.W.exmOne K cls c = some true ∧ ∀ a, H a = none → D.nx ((σ.set h (some (.ref a))).set i none) (upd H a (ExV C a))
def tHold (K : PySem.W.Frag) (c : Value) (i h : Nat) (tb : WX → TS) : TS := fun D σ H => tb (wHold K c i h D) D σ H
section
variable {X : Cx} {x n y : Str} {c : Value} {i h : Nat} {body : List Stmt} {np pos pos' py pn' pa : Pos} {tb : WX → TS}
theorem ps_hold (hs : X.stack = X.env :: X.outer) (hf : X.env.frame = some X.env.locals) (hex : X.ex = []) (hN : X.N.Nodup) (hi : X.N[i]? = some n) (hln : X.env.kindOf n = some .local) (hh : X.N[h]? = some y) (hlh : X.env.scope.names.lookup y = some .local) (hih : (decide (h = i)) = false) (hc : Names X x c)
    (hb : ∀ (W : WX) (pn : List (Addr × Obj)) (xe : Value → Shared → Prop), Takes (X.tr pn xe) W → PassesOwn (model X.prog X.w) X.A X.env xe → PSs (X.tr pn xe) body (tb W))
    (hsw : ∀ (a : Addr) (pn : List (Addr × Obj)), swapsWith (.Name n pn') (some (.Name y py)) pa.line (X.suite a pn).env = pure false) (hdn : (n == ("__debug__" : Str)) = false := by decide) (hcn : (n == ("__classdict__" : Str)) = false := by decide) :
    PS X (.Try body [.ExceptHandler (some (.Name x np)) (some n) [.Assign [.Name y py] (.Name n pn') pa] pos'] [] [] pos) (tHold X.K c i h tb) := by
  refine ⟨fun pins s σ H D I h0 => ?_⟩
  have ok := I.ok
  have hfr : X.A.frames = some (X.env :: X.outer) := by rw [ok.frames, hs]
  have hloc : Loc X.env.scope n := .inl hln
  refine wpAny_Try_except ?_
  refine wpAny_mono ((hb (wHold X.K c i h D) (X.pn ++ pins) (fun e s₁ => wpAny (model X.prog X.w) X.A (noteFrame e X.env) (fun _ s₂ => wpAny (model X.prog X.w) X.A (setFlight e none) (fun _ s₃ =>
    wpAny (model X.prog X.w) X.A (handleBy e X.env [.ExceptHandler (some (.Name x np)) (some n) [.Assign [.Name y py] (.Name n pn') pa] pos']) (SP X pins D) X.xe s₃) X.xe s₂) X.xe s₁) (fun u s' xx => ?_) PassesOwn.looking).run [] s σ H D (I.toTry _) h0) (fun f s1 hsp => ?_) (fun e s1 he => he)
  · obtain ⟨a, B, sI, pins', σ', H', cls, d, rfl, J', nb, up, sky, na, os, ag, C, ec, ed, hb1, hyes⟩ := xx
    subst ec
    subst ed
    have J : Inv X pins σ' H' sI := J'.ofTry ok
    have sky' : Sky B (X.env :: X.outer) a (Zc (.ref C) none) X.env.locals s'.heap := by rw [← hs]; exact sky
    show wpAny (model X.prog X.w) X.A (noteFrame (.ref a) X.env) _ _ _
    refine Sky.land Zc.steady hfr hf sky' fun h3 fl3 up3 => ?_
    have J3 : Inv X pins σ' H' { s' with heap := h3 } := J.landed nb fl3.1 (up.trans up3) os ag
    obtain ⟨oe3, vs3, he3, hz3, hd3⟩ := fl3.there
    have notFr : ∀ {h : Heap} {o : Obj} {vs : Array Value}, h.FunFrames B (X.env :: X.outer) → h.get? a = some o → o.data = .fields vs → a ∉ frs (X.env :: X.outer) := fun {h o vs} ff e dd hm => by
      obtain ⟨_, o', e', hnf⟩ := ff.mem hm
      rw [e] at e'; cases e'
      exact hnf _ dd
    have nfr := notFr fl3.2.2.1 he3 hd3
    have nL : a ≠ X.env.locals := fun z => nfr (List.mem_filterMap.mpr ⟨X.env, List.mem_cons_self, by rw [hf, z]⟩)
    have nF : a ∉ X.fs := fun hm => by
      obtain ⟨e, he, q⟩ := List.mem_filterMap.mp hm
      exact nfr (List.mem_filterMap.mpr ⟨e, List.mem_cons_of_mem _ he, q⟩)
    have nI : sI.heap.get? a = none := by
      cases q : sI.heap.get? a with
      | none => rfl
      | some o =>
        have z := nb a o q (by rw [hs]; exact nfr)
        rw [fl3.2.1] at z
        cases z
    have n0 : X.s_0.heap.get? a = none := by
      cases q : X.s_0.heap.get? a with
      | none => rfl
      | some o =>
        obtain ⟨o', z⟩ := J.base.there a o q (by rw [hex]; exact fun z => nomatch z)
        rw [nI] at z
        cases z
    have S3 := J3.suite he3 hd3 na nL nF
    refine wpAny_handleBy_cons (codeAny_handlers_test ?_) (by intro q; cases q)
    have LT : PySem.W.Looks (model X.prog X.w) h3 (typeOf (.ref a)) (.ref C) := fun A Q E s k q => wpAny_typeOf_ref (k _ _ he3) (by rw [hz3.1]; exact q)
    have LM := PySem.W.exm_one (M := model X.prog X.w) (J3.kIn) LT hb1
    have test : ∀ {Q : Value → Shared → Prop} {E : Value → Shared → Prop}, Q c { s' with heap := h3 } → wpAny (model X.prog X.w) (X.A.mark (some (.ref a))) (eval (.Name x np) X.env) Q E { s' with heap := h3 } := fun {Q E} q => by
      obtain ⟨hg, hdbg, hm | ⟨hm, hv, hnn⟩⟩ := hc
      · exact ld_glob (X := X.suite a ((a, oe3) :: (X.pn ++ pins))) S3 hg hm q hdbg
      · exact ld_blt (X := X.suite a ((a, oe3) :: (X.pn ++ pins))) S3 hg hm hv q hnn hdbg
    refine test (LM.here ?_)
    refine codeAny_handlers_suite_as ?_
    refine HandSPX.lands_againZ fl3 fun h4 fl4 up4 => ?_
    have J4 : Inv X pins σ' H' { s' with heap := h4 } := J.landed nb fl4.1 ((up.trans up3).trans up4) os ag
    obtain ⟨oe4, vs4, he4, hz4, hd4⟩ := fl4.there
    have S4 := J4.suite he4 hd4 na nL nF
    refine store_ok (X := X.suite a ((a, oe4) :: (X.pn ++ pins))) (v := .ref a) S4 hN hi hloc rfl (fun s5 S5 => ?_) (.inr hln)
    have hsuite : PSs (X.suite a ((a, oe4) :: (X.pn ++ pins))) [.Assign [.Name y py] (.Name n pn') pa] (tAsg (tVar i) (gName h)) :=
      pss_one (ps_set (X := X.suite a ((a, oe4) :: (X.pn ++ pins))) hN hh (.inl hlh) (pe_var hi (.inl hln) hdn hcn) (hsw a _) (.inr hlh))
    have hlen : i < σ'.length := by rw [J.len]; exact (List.getElem?_eq_some_iff.mp hi).1
    refine wpAny_mono (hsuite.run [] s5 _ H' { nx := fun σ2 H2 => σ2 = (σ'.set i (some (.ref a))).set h (some (.ref a)) ∧ H2 = H', rt := fun _ _ => False } S5 ⟨.ref a, List.getElem?_set_self hlen, rfl, rfl⟩) (fun f s6 hsp => ?_) (fun _ _ z => False.elim z)
    cases f with
    | next =>
      obtain ⟨σ6, H6, S6, e6, e7⟩ := hsp
      subst e6
      subst e7
      have S7 : Inv X ((a, oe4) :: pins) _ H6 s6 := ⟨ok, S6.os, S6.bare, S6.base, S6.loc, S6.cell, S6.free, S6.freeC, fun p hp => S6.pin p (List.mem_append_left _ (by
        rcases List.mem_append.mp hp with q | q
        · exact List.mem_cons_of_mem _ (List.mem_append_left _ q)
        · rcases List.mem_cons.mp q with q | q
          · rw [q]; exact List.mem_cons_self
          · exact List.mem_cons_of_mem _ (List.mem_append_right _ q))), S6.hok, S6.len⟩
      refine gone_ok S7 hN hi hln fun s7 J7 => ?_
      have pa7 := J7.pin (a, oe4) (List.mem_append_right _ List.mem_cons_self)
      have J8 : Inv X pins _ H6 s7 := ⟨ok, J7.os, J7.bare, J7.base, J7.loc, J7.cell, J7.free, J7.freeC, fun p hp => J7.pin p (by
        rcases List.mem_append.mp hp with q | q
        · exact List.mem_append_left _ q
        · exact List.mem_append_right _ (List.mem_cons_of_mem _ q)), J7.hok, J7.len⟩
      have J9 := Inv.track J8 pa7.1 hz4.1 hz4.2 ⟨_, hd4⟩ na n0 nL (fun p hp z => by
        have q := (J.pin p hp).1
        rw [z, nI] at q
        cases q)
      refine ⟨_, _, J9, ?_⟩
      have hx := hyes a na
      have ec : ((σ'.set i (some (V.ref a))).set h (some (V.ref a))).set i none = (σ'.set h (some (V.ref a))).set i none := by
        have hne : h ≠ i := of_decide_eq_false hih
        rw [List.set_comm _ _ hne.symm, List.set_set]
      rw [ec]
      exact hx
    | brk =>
      obtain ⟨_, _, _, z⟩ := hsp
      exact z.elim
    | cont =>
      obtain ⟨_, _, _, z⟩ := hsp
      exact z.elim
    | ret u =>
      obtain ⟨_, _, _, _, _, z⟩ := hsp
      exact z.elim
  · cases f with
    | next =>
      obtain ⟨σ', H', J', q⟩ := hsp
      exact wpAny_execs_nil ⟨σ', H', J'.ofTry ok, q⟩
    | brk =>
      obtain ⟨σ', H', J', q⟩ := hsp
      exact ⟨σ', H', J'.ofTry ok, q⟩
    | cont =>
      obtain ⟨σ', H', J', q⟩ := hsp
      exact ⟨σ', H', J'.ofTry ok, q⟩
    | ret u =>
      obtain ⟨v, σ', H', J', r, q⟩ := hsp
      exact ⟨v, σ', H', J'.ofTry ok, r, q⟩
end
theorem s_hold {W : WX} {X : XD} {ρ : En} {M : Mh} {A : DE} {K : PySem.W.Frag} {c : Value} {i h : Nat} {tb : WX → TS}
    (q : ∀ W', lS W' (tb W') ρ M A (fun C ρ' M' => PySem.W.exmOne K (.ref C) c = some true ∧ A.nx ((ρ'.set h (some (.exc C))).set i none) M')) : lS W (tHold K c i h tb) ρ M A X := fun σ H D s e p px =>
  q _ σ H D s e p (fun C σ' ρ' H' M' q1 s1 t1 e1 => ⟨C, rfl, rfl, q1.1, fun a ha => p.nx _ _ _ _ q1.2 (s1.new ha) (t1.trans (Stp.new ha))
    (RpE.set (v := none) (d := none) trivial i (RpE.set (v := some (.ref a)) (d := some (.exc C)) (Rp.exc (imm_new s1 ha)) h (e1.mono (Stp.new ha))))⟩)

/-! isinstance of such -/
def rIsX (K : PySem.W.Frag) : List V → Hp → VK → Prop := fun xs H Q => ∃ (a D : Addr) (c : V) (cv : Value) (b : Bool), xs = [.ref a, c] ∧ H a = some (ExV D a) ∧ ExcC K D ∧ (∀ u, RelV c u → u = cv) ∧ PySem.W.kitOne K (.ref D) cv = some b ∧ Q (.bl b) H
theorem call_isX {X : Cx} : CallR X (.builtin "isinstance") (rIsX X.K) := by
  intro pins s σ H xs us Q I r h
  obtain ⟨a, D, c, cv, b, rfl, ha, C, hcv, e, q⟩ := h
  cases r with
  | cons rx rr =>
    cases rr with
    | cons rt rr =>
      cases rr
      cases rx
      have ec := hcv _ rt
      subst ec
      obtain ⟨⟨oe, hget, h1, h2, vs, hv⟩, _, _⟩ := I.hok a _ ha
      have J : PySem.W.InstAt s.heap a oe D none := by
        obtain ⟨oc, od, oda, osl⟩ := oe
        dsimp only at h1 h2 hv
        subst h1 h2 hv
        exact ⟨hget, rfl, rfl, trivial⟩
      exact PySem.W.kia_one (PySem.W.handS_kitx_exc C.hg C.hk C.hs C.hd C.ha C.hn C.ht C.hm) I.kIn J e (fun z => nomatch z) fun tk => ⟨.bl b, H, I.kept (t' := tk) fun _ _ z => z, rfl, q⟩
theorem c_isX {K : PySem.W.Frag} {M : Mh} {Q : D → Mh → Prop} {C c : Addr} {b : Bool} (hC : ExcC K C) (hk : PySem.W.kitOne K (.ref C) (.ref c) = some b) (q : Q (.bl b) M) : lC (rIsX K) [.exc C, .ref c] M Q := fun us H k s r p => by
  cases r with
  | cons r1 r2 =>
    cases r2 with
    | cons r2 r3 =>
      cases r3
      cases r2
      cases r1 with
      | exc ha => exact ⟨_, C, _, _, b, rfl, (of_imm ha).1, hC, fun u h => h, hk, p _ _ H M q s (Kn.refl _) (.bl b)⟩
theorem c_isXt {K : PySem.W.Frag} {M : Mh} {Q : D → Mh → Prop} {C : Addr} {c : String} {b : Bool} (hC : ExcC K C) (hk : PySem.W.kitOne K (.ref C) (.type c) = some b) (q : Q (.bl b) M) : lC (rIsX K) [.exc C, .ty c] M Q := fun us H k s r p => by
  cases r with
  | cons r1 r2 =>
    cases r2 with
    | cons r2 r3 =>
      cases r3
      cases r2
      cases r1 with
      | exc ha => exact ⟨_, C, _, _, b, rfl, (of_imm ha).1, hC, fun u h => h, hk, p _ _ H M q s (Kn.refl _) (.bl b)⟩

/-! ### pure functions of texts -/
def isAt (y x : List Nat) (i : Nat) : Bool := decide (i + y.length ≤ x.length) && ((x.drop i).take y.length == y)
def findAt (y x : List Nat) : Option Nat := (List.range (x.length + 1)).find? (isAt y x)
def hasT (y x : List Nat) : Bool := (findAt y x).isSome
theorem isAt_At (x y : List Nat) (i : Nat) : isAt y x i = true ↔ StrLaws.At (S x) (S y) (S x).length i := by
  unfold isAt StrLaws.At
  rw [Bool.and_eq_true, decide_eq_true_eq, StrLaws.subAt_eq, SX.S_len, SX.S_len]
theorem find_some {p : Nat → Bool} {n i : Nat} (hi : i < n) (hp : p i = true) (hn : ∀ k, k < i → p k = false) : (List.range n).find? p = some i := by
  induction n with
  | zero => omega
  | succ n ih =>
    rw [List.range_succ, List.find?_append]
    by_cases h : i < n
    · rw [ih h]
      rfl
    · have e : i = n := by omega
      subst e
      have : (List.range i).find? p = none := by
        rw [List.find?_eq_none]
        intro k hk
        rw [hn k (List.mem_range.mp hk)]
        exact Bool.false_ne_true
      rw [this]
      simp [hp]
theorem find_none {p : Nat → Bool} {n : Nat} (hn : ∀ k, k < n → p k = false) : (List.range n).find? p = none := by
  rw [List.find?_eq_none]
  intro k hk
  rw [hn k (List.mem_range.mp hk)]
  exact Bool.false_ne_true
theorem occ_find (x y : List Nat) : (Builtin.Str.occurrences (S x) (S y) 0 (S x).length 1).head? = findAt y x := by
  rcases StrLaws.occ_head (S x) (S y) 1 (Nat.le_refl _) with ⟨e, hn⟩ | ⟨i, r, e, ha, hn⟩
  · rw [e]
    refine (find_none fun k _ => ?_).symm
    cases h : isAt y x k with
    | false => rfl
    | true => exact absurd ((isAt_At x y k).mp h) (hn k)
  · rw [e]
    have hi := (isAt_At x y i).mpr ha
    refine (find_some ?_ hi fun k hk => ?_).symm
    · have h1 := ha.1
      have hx : (S x).length = x.length := SX.S_len x
      rw [hx] at h1
      omega
    · cases h : isAt y x k with
      | false => rfl
      | true => exact absurd ((isAt_At x y k).mp h) (hn k hk)
theorem occ_has (x y : List Nat) : (!(Builtin.Str.occurrences (S x) (S y) 0 (S x).length 1).isEmpty) = hasT y x := by
  unfold hasT
  rw [← occ_find]
  cases Builtin.Str.occurrences (S x) (S y) 0 (S x).length 1 <;> rfl
theorem find_is (x y : List Nat) : PySem.Txt.find (S x) (S y) = match findAt y x with | some i => (i : Int) | none => -1 := by
  unfold PySem.Txt.find
  rw [← occ_find]
  cases Builtin.Str.occurrences (S x) (S y) 0 (S x).length 1 <;> rfl
theorem starts_is (x y : List Nat) : PySem.Txt.startswith (S x) (S y) = isAt y x 0 := by
  unfold PySem.Txt.startswith isAt
  rw [StrLaws.subAt_eq, SX.S_len, SX.S_len]
/-- the cut of a list -/
def cutL {α : Type} (xs : List α) (lo hi : Option Int) : List α := (xs.drop (HT.sIx xs.length 0 lo)).take (HT.sIx xs.length xs.length hi - HT.sIx xs.length 0 lo)
theorem cutV_cutL (xs : List V) (lo hi : Option Int) : cutV xs lo hi = cutL xs lo hi := rfl
theorem RpL.cut {I : Hp} {vs : List V} {ds : List D} (r : RpL I vs ds) (lo hi : Option Int) : RpL I (cutV vs lo hi) (cutL ds lo hi) := by
  unfold cutV cutL
  rw [r.length]
  exact (r.drop _).take _
theorem cutS_cutL (z : List Nat) (lo hi : Option Int) : cutS (S z) lo hi = S (cutL z lo hi) := by
  unfold cutS cutL
  have h1 : (S z).length = z.length := SX.S_len z
  simp only [h1]
  try rfl

section
variable {W : WX} {X : XD} {ρ : En} {M : Mh} {Q : D → Mh → Prop} {A : DE} {K : PySem.W.Frag} {Y : Cx}
/-! ### + -/
def rAddS0 : R2 := fun x y H Q => ∃ i j, x = .str i ∧ y = .str j ∧ i.length + j.length ≤ sizeLine ∧ Q (.str (i ++ j)) H
def rAddA (K : PySem.W.Frag) : R2 := fun x y H Q => (rI0 fun i j => .int (i + j)) x y H Q ∨ (rAddS0 x y H Q ∨ (rCat x y H Q ∨ rCatT K x y H Q))
theorem op_addA : OpR Y (binaryOp .Add) (rAddA Y.K) := op_add.or ((show OpR Y (binaryOp .Add) rAddS0 from op_add_str).or (op_cat.or op_catT))
theorem r_addI {i j : Int} (q : Q (.int (i + j)) M) : lR (rAddA K) (.int i) (.int j) M Q := fun u v H k s ru rv p => .inl (r_add q u v H k s ru rv p)
theorem r_addS {a b : List Nat} (hl : a.length + b.length ≤ 100000) (q : Q (.str (a ++ b)) M) : lR (rAddA K) (.str a) (.str b) M Q := fun u v H k s ru rv p => by
  cases ru
  cases rv
  refine .inr (.inl ⟨_, _, rfl, rfl, ?_, ?_⟩)
  · rw [SX.S_len, SX.S_len]
    exact line_le hl
  · rw [SX.S_cat]
    exact p _ _ H M q s (Kn.refl _) (.str _)
/-- the new list stays as it is -/
theorem r_addL {x y : D} {xs ys : List D} (hx : isL M x xs) (hy : isL M y ys) (hl : xs.length + ys.length ≤ 100000) (q : Q (.lst (xs ++ ys)) M) : lR (rAddA K) x y M Q := fun u v H k s ru rv p => by
  obtain ⟨a, vs, rfl, ha, hr⟩ := isL_sq hx s ru
  obtain ⟨b, ws, rfl, hb, hr2⟩ := isL_sq hy s rv
  refine .inr (.inr (.inl ⟨a, b, vs, ws, rfl, rfl, ha, hb, ?_, fun c hc => ?_⟩))
  · rw [hr.length, hr2.length]
    exact line_le hl
  · exact p _ _ _ M q (s.new hc) (Stp.new hc) (.lst (imm_new s hc) ((hr.append hr2).mono (Stp.new hc)))
theorem r_addLM {x y : D} {xs ys : List D} (hx : isL M x xs) (hy : isL M y ys) (hl : xs.length + ys.length ≤ 100000) (q : ∀ a, M a = none → Q (.ref a) (upM M a (.lst (xs ++ ys)))) : lR (rAddA K) x y M Q := fun u v H k s ru rv p => by
  obtain ⟨a, vs, rfl, ha, hr⟩ := isL_sq hx s ru
  obtain ⟨b, ws, rfl, hb, hr2⟩ := isL_sq hy s rv
  refine .inr (.inr (.inl ⟨a, b, vs, ws, rfl, rfl, ha, hb, ?_, fun c hc => ?_⟩))
  · rw [hr.length, hr2.length]
    exact line_le hl
  · exact p _ _ _ _ (q c (s.fresh hc)) (s.newC hc ⟨_, rfl, hr.append hr2⟩) (Stp.newC hc) (.ref c)
theorem r_addT {xs ys : List D} (hx : xs ≠ []) (hy : ys ≠ []) (hl : xs.length + ys.length ≤ 100000) (q : Q (.tup (xs ++ ys)) M) : lR (rAddA K) (.tup xs) (.tup ys) M Q := fun u v H k s ru rv p => by
  cases ru with
  | tup ha hr =>
    cases rv with
    | tup hb hr2 =>
      rename_i a vs b ws
      refine .inr (.inr (.inr ⟨a, b, vs, ws, rfl, rfl, SqT.of (of_imm ha).1, SqT.of (of_imm hb).1, ?_, ?_, ?_, ?_⟩))
      · intro z
        rw [z] at hr
        cases hr
        exact hx rfl
      · rw [hr.length, hr2.length]
        exact line_le hl
      · intro z
        rw [z] at hr2
        cases hr2
        exact absurd rfl hy
      · intro _ c hc
        exact p _ _ _ M q (s.new hc) (Stp.new hc) (.tup (imm_new s hc) ((hr.append hr2).mono (Stp.new hc)))
/-! ### * -/
def rMulS0 : R2 := fun x y H Q => ∃ (a : List Nat) (n : Nat), x = .str (S a) ∧ y = .int (n : Int) ∧ a.length * n ≤ 100000 ∧ n ≤ 100000 ∧ Q (.str (S (List.replicate n a).flatten)) H
theorem foldl_arr (x : Array Nat) : ∀ (n : Nat) (acc : Array Nat), ((List.replicate n x).foldl (· ++ ·) acc).toList = acc.toList ++ (List.replicate n x.toList).flatten
  | 0, acc => by simp
  | n + 1, acc => by
    rw [List.replicate_succ, List.replicate_succ, List.foldl_cons, foldl_arr x n, List.flatten_cons, Array.toList_append, List.append_assoc]
theorem op_mul_s : OpR Y (binaryOp .Mult) rMulS0 := by
  intro pins s σ H x y v u Q I rx ry h
  obtain ⟨a, n, rfl, rfl, hl, hn, q⟩ := h
  obtain ⟨t, rfl⟩ := rx
  obtain ⟨t', rfl⟩ := ry
  have hlen : (S a).length = a.length := SX.S_len a
  have hmul : a.length * n ≤ 100000 := hl
  refine PySem.P.mul_str ?_ ?_ ?_ ?_
  · rw [decide_eq_false (by omega), decide_eq_false (by omega)]
    rfl
  · intro h1 h2
    rw [hlen]
    have hn1 : 0 < n := by omega
    have hle : a.length ≤ 100000 := by
      calc a.length = a.length * 1 := (Nat.mul_one _).symm
        _ ≤ a.length * n := Nat.mul_le_mul_left _ hn1
        _ ≤ 100000 := hmul
    have h3 : (100000 : Int) ≤ (2 ^ 63 - 1) / (n : Int) := by
      rw [Int.le_ediv_iff_mul_le (by omega)]
      omega
    omega
  · intro h1 h2
    rw [hlen]
    unfold Builtin.Str.tooLong
    rw [decide_eq_false_iff_not, sizeLine_eq, Int.toNat_natCast]
    omega
  · by_cases h1 : (n : Int) < 1
    · rw [if_pos h1]
      have e : n = 0 := by omega
      subst e
      exact ⟨by decide, ⟨.str (S []), H, I.tok _, ⟨_, rfl⟩, q⟩⟩
    · rw [if_neg h1]
      by_cases h2 : ((n : Int) == 1 || (S a).length == 0) = true
      · rw [if_pos h2]
        have e : S a = S (List.replicate n a).flatten := by
          rw [Bool.or_eq_true, beq_iff_eq, beq_iff_eq, hlen] at h2
          rcases h2 with h2 | h2
          · have e : n = 1 := by omega
            subst e
            simp
          · have e : a = [] := List.eq_nil_of_length_eq_zero h2
            subst e
            simp
        exact ⟨.str (S (List.replicate n a).flatten), H, I, ⟨t, by rw [← e]⟩, q⟩
      · rw [if_neg h2]
        have e : (⟨(List.replicate (n : Int).toNat (S a).cps).foldl (· ++ ·) #[]⟩ : Str) = S (List.replicate n a).flatten := by
          refine TL.ext_tl ?_
          show ((List.replicate (n : Int).toNat (S a).cps).foldl (· ++ ·) #[]).toList = _
          rw [foldl_arr, Int.toNat_natCast]
          simp
        rw [e]
        refine ⟨?_, ⟨.str _, H, I.tok _, ⟨_, rfl⟩, q⟩⟩
        try (show _ ≤ sizeLine; rw [SX.S_len]; exact line_le (by simpa [List.length_flatten] using (by rw [Nat.mul_comm]; exact hmul)))
def rMulA : R2 := fun x y H Q => (rI CMul fun i j => .int (i * j)) x y H Q ∨ (rMulS0 x y H Q ∨ rRep x y H Q)
theorem op_mulA : OpR Y (binaryOp .Mult) rMulA := op_mul.or (op_mul_s.or op_rep)
theorem r_mulI {i j : Int} (hc : CMul i j) (q : Q (.int (i * j)) M) : lR rMulA (.int i) (.int j) M Q := fun u v H k s ru rv p => .inl (r_mul hc q u v H k s ru rv p)
theorem r_mulS {a : List Nat} {n : Nat} (hl : a.length * n ≤ 100000) (hn : n ≤ 100000) (q : Q (.str (List.replicate n a).flatten) M) : lR rMulA (.str a) (.int (n : Int)) M Q := fun u v H k s ru rv p => by
  cases ru
  cases rv
  exact .inr (.inl ⟨a, n, rfl, rfl, hl, hn, p _ _ H M q s (Kn.refl _) (.str _)⟩)
theorem RpL.rep {I : Hp} {vs : List V} {ds : List D} (r : RpL I vs ds) : ∀ n : Nat, RpL I (List.replicate n vs).flatten (List.replicate n ds).flatten
  | 0 => .nil
  | n + 1 => by
    rw [List.replicate_succ, List.replicate_succ, List.flatten_cons, List.flatten_cons]
    exact r.append (RpL.rep r n)
theorem r_mulL {x : D} {xs : List D} {n : Nat} (hx : isL M x xs) (hl : xs.length * n ≤ 100000) (hn : n ≤ 100000) (q : Q (.lst (List.replicate n xs).flatten) M) : lR rMulA x (.int (n : Int)) M Q := fun u v H k s ru rv p => by
  cases rv
  obtain ⟨a, vs, rfl, ha, hr⟩ := isL_sq hx s ru
  refine .inr (.inr ⟨a, _, vs, rfl, rfl, ha, by omega, by omega, ?_, fun c hc => ?_⟩)
  · rw [hr.length, Int.toNat_natCast]
    exact line_le hl
  · rw [Int.toNat_natCast]
    exact p _ _ _ M q (s.new hc) (Stp.new hc) (.lst (imm_new s hc) ((hr.rep n).mono (Stp.new hc)))

/-! ### == and != -/
mutual
def toPy : D → PyData
  | .non => .none
  | .bl b => .bool b
  | .int i => .int i
  | .str s => .str (S s)
  | .tup ds => .tuple (toPys ds)
  | .lst ds => .list (toPys ds)
  | _ => .none
def toPys : List D → List PyData
  | [] => []
  | d :: ds => toPy d :: toPys ds
end
mutual
def plain : D → Bool
  | .non | .bl _ | .int _ | .str _ => true
  | .tup ds | .lst ds => plains ds
  | _ => false
def plains : List D → Bool
  | [] => true
  | d :: ds => plain d && plains ds
end
mutual
theorem Rp.dp {K : PySem.W.Frag} {H : Hp} {M : Mh} : ∀ {v : V} {d : D}, plain d = true → Rp (imm H M) v d → Dp K H v (toPy d)
  | _, _, _, .non => .non
  | _, _, _, .bl b => .bl b
  | _, _, _, .int i => .int i
  | _, _, _, .str s => .str _
  | _, _, h, .tup ha hr => .tup (SqT.of (of_imm ha).1) (RpL.dp (by rw [plain] at h; exact h) hr)
  | _, _, h, .lst ha hr => .lst (SqL.of (of_imm ha).1) (RpL.dp (by rw [plain] at h; exact h) hr)
theorem RpL.dp {K : PySem.W.Frag} {H : Hp} {M : Mh} : ∀ {vs : List V} {ds : List D}, plains ds = true → RpL (imm H M) vs ds → DpAll K H vs (toPys ds)
  | _, _, _, .nil => .nil
  | _, _, h, .cons r t => by
    rw [plains, Bool.and_eq_true] at h
    exact .cons (Rp.dp h.1 r) (RpL.dp h.2 t)
end
/-- the data as it is compared: itself, or what a cell holds -/
def asD (M : Mh) (x d : D) : Prop := x = d ∨ ∃ a ds, x = .ref a ∧ M a = some (.lst ds) ∧ d = .lst ds
theorem asD_dp {K : PySem.W.Frag} {H : Hp} {v : V} {x d : D} (h : asD M x d) (hp : plain d = true) (s : Sta M H) (r : Rp (imm H M) v x) : Dp K H v (toPy d) := by
  rcases h with rfl | ⟨a, ds, rfl, m, rfl⟩
  · exact r.dp hp
  · cases r
    obtain ⟨vs, ha, hr⟩ := s.lst m
    exact .lst (SqL.of ha) (hr.dp (by rw [plain] at hp; exact hp))
def okD (d : D) : Bool := plain d && SeqAt.shaped (toPy d)
def rEqA (K : PySem.W.Frag) : R2 := fun x y H Q => rEq x y H Q ∨ rEqD K x y H Q
def rNeA (K : PySem.W.Frag) : R2 := fun x y H Q => rNe x y H Q ∨ rNeD K x y H Q
theorem op_eqA (hu : Y.A.units + 64 < cLine) : OpR Y (compareOp .Eq) (rEqA Y.K) := op_eq.or (op_eqD hu)
theorem op_neA (hu : Y.A.units + 64 < cLine) : OpR Y (compareOp .NotEq) (rNeA Y.K) := op_ne.or (op_neD hu)
theorem S_dec {a b : List Nat} : decide (V.str (S a) = V.str (S b)) = decide (a = b) := by
  by_cases h : a = b
  · subst h
    rw [decide_eq_true rfl, decide_eq_true rfl]
  · rw [decide_eq_false h, decide_eq_false (fun z => h (SX.S_inj (V.str.inj z)))]
theorem r_eqS {a b : List Nat} (q : Q (.bl (decide (a = b))) M) : lR (rEqA K) (.str a) (.str b) M Q := fun u v H k s ru rv p => by
  cases ru
  cases rv
  refine .inl ⟨rfl, ?_⟩
  rw [S_dec]
  exact p _ _ H M q s (Kn.refl _) (.bl _)
theorem r_neS {a b : List Nat} (q : Q (.bl (!decide (a = b))) M) : lR (rNeA K) (.str a) (.str b) M Q := fun u v H k s ru rv p => by
  cases ru
  cases rv
  refine .inl ⟨rfl, ?_⟩
  rw [S_dec]
  exact p _ _ H M q s (Kn.refl _) (.bl _)
theorem I_dec {a b : Int} : decide (V.int a = V.int b) = decide (a = b) := by
  by_cases h : a = b
  · subst h
    rw [decide_eq_true rfl, decide_eq_true rfl]
  · rw [decide_eq_false h, decide_eq_false (fun z => h (V.int.inj z))]
theorem r_eqI {a b : Int} (q : Q (.bl (decide (a = b))) M) : lR (rEqA K) (.int a) (.int b) M Q := fun u v H k s ru rv p => by
  cases ru
  cases rv
  refine .inl ⟨rfl, ?_⟩
  rw [I_dec]
  exact p _ _ H M q s (Kn.refl _) (.bl _)
theorem r_neI {a b : Int} (q : Q (.bl (!decide (a = b))) M) : lR (rNeA K) (.int a) (.int b) M Q := fun u v H k s ru rv p => by
  cases ru
  cases rv
  refine .inl ⟨rfl, ?_⟩
  rw [I_dec]
  exact p _ _ H M q s (Kn.refl _) (.bl _)
theorem r_eqB {a b : Bool} (q : Q (.bl (decide (a = b))) M) : lR (rEqA K) (.bl a) (.bl b) M Q := fun u v H k s ru rv p => by
  cases ru
  cases rv
  refine .inl ⟨rfl, ?_⟩
  have e : decide (V.bl a = V.bl b) = decide (a = b) := by cases a <;> cases b <;> rfl
  rw [e]
  exact p _ _ H M q s (Kn.refl _) (.bl _)
theorem r_neB {a b : Bool} (q : Q (.bl (!decide (a = b))) M) : lR (rNeA K) (.bl a) (.bl b) M Q := fun u v H k s ru rv p => by
  cases ru
  cases rv
  refine .inl ⟨rfl, ?_⟩
  have e : decide (V.bl a = V.bl b) = decide (a = b) := by cases a <;> cases b <;> rfl
  rw [e]
  exact p _ _ H M q s (Kn.refl _) (.bl _)
theorem ok_and {d : D} (h : okD d = true) : plain d = true ∧ SeqAt.shaped (toPy d) = true := Bool.and_eq_true_iff.mp h
theorem r_eqD {x y d e : D} (hx : asD M x d) (hy : asD M y e) (hd : okD d = true) (he : okD e = true) (q : Q (.bl (PyData.eqv (toPy d) (toPy e))) M) : lR (rEqA K) x y M Q := fun u v H k s ru rv p =>
  .inr ⟨_, _, asD_dp hx (ok_and hd).1 s ru, asD_dp hy (ok_and he).1 s rv, (ok_and hd).2, (ok_and he).2, p _ _ H M q s (Kn.refl _) (.bl _)⟩
theorem r_neD {x y d e : D} (hx : asD M x d) (hy : asD M y e) (hd : okD d = true) (he : okD e = true) (q : Q (.bl (!PyData.eqv (toPy d) (toPy e))) M) : lR (rNeA K) x y M Q := fun u v H k s ru rv p =>
  .inr ⟨_, _, asD_dp hx (ok_and hd).1 s ru, asD_dp hy (ok_and he).1 s rv, (ok_and hd).2, (ok_and he).2, p _ _ H M q s (Kn.refl _) (.bl _)⟩
theorem eqv_ok {d : D} (h : okD d = true) : PyData.eqv (toPy d) (toPy d) = true := by
  have z := (ok_and h).2
  unfold SeqAt.shaped at z
  exact SeqAt.eqv_refl _ (Bool.and_eq_true_iff.mp z).1
/-- the same data -/
theorem r_eqR {x y d : D} (hx : asD M x d) (hy : asD M y d) (hd : okD d = true) (q : Q (.bl true) M) : lR (rEqA K) x y M Q := r_eqD hx hy hd hd (by rw [eqv_ok hd]; exact q)
theorem r_neR {x y d : D} (hx : asD M x d) (hy : asD M y d) (hd : okD d = true) (q : Q (.bl false) M) : lR (rNeA K) x y M Q := r_neD hx hy hd hd (by rw [eqv_ok hd]; exact q)
theorem asD_self {x : D} : asD M x x := .inl rfl
theorem asD_ref {a : Addr} {ds : List D} (h : M a = some (.lst ds)) : asD M (.ref a) (.lst ds) := .inr ⟨a, ds, rfl, h, rfl⟩
end

/-! ### flat data: none, truths, whole numbers, texts -/
def flatD : D → Bool
  | .non | .bl _ | .int _ | .str _ => true
  | _ => false
def eqF : D → D → Bool
  | .non, .non => true
  | .bl a, .bl b => a == b
  | .bl a, .int b => (if a then 1 else 0) == b
  | .int a, .bl b => a == (if b then 1 else 0)
  | .int a, .int b => a == b
  | .str a, .str b => a == b
  | _, _ => false
theorem flat_rp {I : Hp} {v : V} {d : D} (f : flatD d = true) (r : Rp I v d) : flatV v = true := by
  cases r <;> first | rfl | cases f
theorem flats_rp {I : Hp} : ∀ {vs : List V} {ds : List D}, ds.all flatD = true → RpL I vs ds → vs.all flatV = true
  | _, _, _, .nil => rfl
  | _, _, h, .cons r t => by
    rw [List.all_cons, Bool.and_eq_true] at h
    rw [List.all_cons, Bool.and_eq_true]
    exact ⟨flat_rp h.1 r, flats_rp h.2 t⟩
theorem eqF_rp {I : Hp} {v w : V} {d e : D} (f : flatD d = true) (g : flatD e = true) (r : Rp I v d) (q : Rp I w e) : eqV v w = eqF d e := by
  cases r <;> first
    | cases f; done
    | (cases q <;> first
        | rfl
        | (cases g; done)
        | exact SX.S_beq _ _)
theorem any_rp {I : Hp} {x : V} {d : D} (f : flatD d = true) (r : Rp I x d) : ∀ {vs : List V} {ds : List D}, ds.all flatD = true → RpL I vs ds → inV x vs = ds.any fun e => eqF e d
  | _, _, _, .nil => rfl
  | _, _, h, .cons r' t => by
    rw [List.all_cons, Bool.and_eq_true] at h
    have ih := any_rp f r h.2 t
    unfold inV at ih ⊢
    rw [List.any_cons, List.any_cons, ih, eqF_rp h.1 f r' r]
theorem count_rp {I : Hp} {x : V} {d : D} (f : flatD d = true) (r : Rp I x d) : ∀ {vs : List V} {ds : List D}, ds.all flatD = true → RpL I vs ds → vs.countP (fun y => eqV y x) = ds.countP fun e => eqF e d
  | _, _, _, .nil => rfl
  | _, _, h, .cons r' t => by
    rw [List.all_cons, Bool.and_eq_true] at h
    rw [List.countP_cons, List.countP_cons, count_rp f r h.2 t, eqF_rp h.1 f r' r]
theorem all_strs (xs : List (List Nat)) : (xs.map D.str).all flatD = true := by
  induction xs with
  | nil => rfl
  | cons x xs ih => rw [List.map_cons, List.all_cons, ih]; rfl
theorem all_ints (xs : List Int) : (xs.map D.int).all flatD = true := by
  induction xs with
  | nil => rfl
  | cons x xs ih => rw [List.map_cons, List.all_cons, ih]; rfl
theorem any_strs (x : List Nat) (xs : List (List Nat)) : ((xs.map D.str).any fun e => eqF e (.str x)) = decide (x ∈ xs) := by
  induction xs with
  | nil => rfl
  | cons y xs ih =>
    rw [List.map_cons, List.any_cons, ih]
    show (y == x || decide (x ∈ xs)) = decide (x ∈ y :: xs)
    by_cases h : y = x
    · subst h
      simp
    · have h' : ¬ x = y := fun z => h z.symm
      have h2 : (y == x) = false := by simpa using h
      rw [h2, Bool.false_or]
      by_cases hm : x ∈ xs
      · rw [decide_eq_true hm, decide_eq_true (List.mem_cons_of_mem _ hm)]
      · rw [decide_eq_false hm, decide_eq_false (fun z => (List.mem_cons.mp z).elim h' hm)]
theorem any_ints (x : Int) (xs : List Int) : ((xs.map D.int).any fun e => eqF e (.int x)) = decide (x ∈ xs) := by
  induction xs with
  | nil => rfl
  | cons y xs ih =>
    rw [List.map_cons, List.any_cons, ih]
    show (y == x || decide (x ∈ xs)) = decide (x ∈ y :: xs)
    by_cases h : y = x
    · subst h
      simp
    · have h' : ¬ x = y := fun z => h z.symm
      have h2 : (y == x) = false := by simpa using h
      rw [h2, Bool.false_or]
      by_cases hm : x ∈ xs
      · rw [decide_eq_true hm, decide_eq_true (List.mem_cons_of_mem _ hm)]
      · rw [decide_eq_false hm, decide_eq_false (fun z => (List.mem_cons.mp z).elim h' hm)]

section
variable {W : WX} {X : XD} {ρ : En} {M : Mh} {Q : D → Mh → Prop} {A : DE} {K : PySem.W.Frag} {Y : Cx}
/-! ### in -/
def rInS0 : R2 := fun x y H Q => ∃ i j, x = .str i ∧ y = .str j ∧ Q (.bl (!(Builtin.Str.occurrences j i 0 j.length 1).isEmpty)) H
def rNinS0 : R2 := fun x y H Q => ∃ i j, x = .str i ∧ y = .str j ∧ Q (.bl (!(!(Builtin.Str.occurrences j i 0 j.length 1).isEmpty))) H
def rInA (K : PySem.W.Frag) : R2 := fun x y H Q => rInS0 x y H Q ∨ rIn K false x y H Q
def rNinA (K : PySem.W.Frag) : R2 := fun x y H Q => rNinS0 x y H Q ∨ rIn K true x y H Q
theorem op_inA : OpR Y (compareOp .In) (rInA Y.K) := (show OpR Y (compareOp .In) rInS0 from op_in_str).or op_in_seq
theorem op_ninA : OpR Y (compareOp .NotIn) (rNinA Y.K) := (show OpR Y (compareOp .NotIn) rNinS0 from op_notin_str).or op_notIn_seq
theorem r_inS {a b : List Nat} (q : Q (.bl (hasT a b)) M) : lR (rInA K) (.str a) (.str b) M Q := fun u v H k s ru rv p => by
  cases ru
  cases rv
  refine .inl ⟨_, _, rfl, rfl, ?_⟩
  rw [occ_has]
  exact p _ _ H M q s (Kn.refl _) (.bl _)
theorem r_ninS {a b : List Nat} (q : Q (.bl (!hasT a b)) M) : lR (rNinA K) (.str a) (.str b) M Q := fun u v H k s ru rv p => by
  cases ru
  cases rv
  refine .inl ⟨_, _, rfl, rfl, ?_⟩
  rw [occ_has]
  exact p _ _ H M q s (Kn.refl _) (.bl _)
/-- a list or a tuple of these -/
def isSq (M : Mh) (d : D) (ds : List D) : Prop := isL M d ds ∨ d = .tup ds
theorem isSq_sq {H : Hp} {v : V} {d : D} {ds : List D} (h : isSq M d ds) (s : Sta M H) (r : Rp (imm H M) v d) : ∃ a vs, v = .ref a ∧ (SqL K H a vs ∨ SqT K H a vs) ∧ RpL (imm H M) vs ds := by
  rcases h with h | rfl
  · obtain ⟨a, vs, e, ha, hr⟩ := isL_sq h s r
    exact ⟨a, vs, e, .inl (SqL.of ha), hr⟩
  · cases r with
    | tup ha hr => exact ⟨_, _, rfl, .inr (SqT.of (of_imm ha).1), hr⟩
theorem r_in {x y : D} {ds : List D} (hy : isSq M y ds) (hx : flatD x = true) (hd : ds.all flatD = true) (q : Q (.bl (ds.any fun e => eqF e x)) M) : lR (rInA K) x y M Q := fun u v H k s ru rv p => by
  obtain ⟨a, vs, rfl, ha, hr⟩ := isSq_sq (K := K) hy s rv
  refine .inr ⟨a, vs, rfl, ha, flat_rp hx ru, flats_rp hd hr, ?_⟩
  rw [if_neg Bool.false_ne_true, any_rp hx ru hd hr]
  exact p _ _ H M q s (Kn.refl _) (.bl _)
theorem r_nin {x y : D} {ds : List D} (hy : isSq M y ds) (hx : flatD x = true) (hd : ds.all flatD = true) (q : Q (.bl (!(ds.any fun e => eqF e x))) M) : lR (rNinA K) x y M Q := fun u v H k s ru rv p => by
  obtain ⟨a, vs, rfl, ha, hr⟩ := isSq_sq (K := K) hy s rv
  refine .inr ⟨a, vs, rfl, ha, flat_rp hx ru, flats_rp hd hr, ?_⟩
  rw [if_pos rfl, any_rp hx ru hd hr]
  exact p _ _ H M q s (Kn.refl _) (.bl _)
theorem r_inSs {x : List Nat} {y : D} {xs : List (List Nat)} (hy : isSq M y (xs.map D.str)) (q : Q (.bl (decide (x ∈ xs))) M) : lR (rInA K) (.str x) y M Q := r_in hy rfl (all_strs xs) (by rw [any_strs]; exact q)
theorem r_ninSs {x : List Nat} {y : D} {xs : List (List Nat)} (hy : isSq M y (xs.map D.str)) (q : Q (.bl (!decide (x ∈ xs))) M) : lR (rNinA K) (.str x) y M Q := r_nin hy rfl (all_strs xs) (by rw [any_strs]; exact q)
/-! ### [i] -/
theorem ix_get {I : Hp} {vs : List V} {ds : List D} {i : Int} {d : D} (r : RpL I vs ds) (h : atI ds i = some d) : ∃ v, atI vs i = some v ∧ Rp I v d := by
  unfold atI at h ⊢
  rw [r.length]
  cases e : ixN ds.length i with
  | none =>
    rw [e] at h
    cases h
  | some j =>
    rw [e] at h
    obtain ⟨v, hv, rv⟩ := r.getD (i := j) (d := d) h
    exact ⟨v, hv, rv⟩
theorem r_ix {x : D} {ds : List D} {i : Int} {d : D} (hx : isSq M x ds) (h : atI ds i = some d) (q : Q d M) : lR (rIx K) x (.int i) M Q := fun u v H k s ru rv p => by
  cases rv
  obtain ⟨a, vs, rfl, ha, hr⟩ := isSq_sq (K := K) hx s ru
  obtain ⟨w, hw, rw'⟩ := ix_get hr h
  rcases ha with ha | ha
  · exact .inl ⟨a, vs, i, w, rfl, rfl, ha, hw, p _ _ H M q s (Kn.refl _) rw'⟩
  · exact .inr (.inl ⟨a, vs, i, w, rfl, rfl, ha, hw, p _ _ H M q s (Kn.refl _) rw'⟩)
theorem r_ixS {a : List Nat} {i : Int} {c : Nat} (hl : a.length ≤ 100000) (h : atI a i = some c) (q : Q (.str [c]) M) : lR (rIx K) (.str a) (.int i) M Q := fun u v H k s ru rv p => by
  cases ru
  cases rv
  exact .inr (.inr ⟨_, i, c, rfl, rfl, by rw [SX.S_len]; exact line_le hl, h, p _ _ H M q s (Kn.refl _) (.str [c])⟩)
theorem at_nat {α : Type} {xs : List α} {j : Nat} {v : α} (h : xs[j]? = some v) : atI xs (j : Int) = some v := atI_nat h
/-- the script: a list that is only read -/
def scr (K : PySem.W.Frag) (ns : List Int) : D := .opq fun v I => ∃ a, v = .ref a ∧ SqL K I a (ns.map V.int)
theorem Kn.seq {I I' : Hp} (k : Kn I I') {a : Addr} {xs : List V} (h : SqL K I a xs) : SqL K I' a xs := by
  rcases h with (h | ⟨o, h⟩) | h
  · exact .inl (.inl (k _ _ h))
  · exact .inl (.inr ⟨o, k _ _ h⟩)
  · exact .inr h
theorem imm_kn {H : Hp} : Kn (imm H M) H := fun a o h => (of_imm h).1
theorem scr_rp {I : Hp} {a : Addr} {ns : List Int} (h : SqL K I a (ns.map V.int)) : Rp I (.ref a) (scr K ns) := .opq ⟨a, rfl, h⟩ fun I I' k ⟨b, e, q⟩ => ⟨b, e, k.seq q⟩
theorem scr_of {H : Hp} {v : V} {ns : List Int} (r : Rp (imm H M) v (scr K ns)) : ∃ a, v = .ref a ∧ SqL K H a (ns.map V.int) := by
  cases r with
  | opq h _ =>
    obtain ⟨a, e, q⟩ := h
    exact ⟨a, e, imm_kn.seq q⟩
theorem r_ixC {ns : List Int} {i n : Int} (h : atI ns i = some n) (q : Q (.int n) M) : lR (rIx K) (scr K ns) (.int i) M Q := fun u v H k s ru rv p => by
  cases rv
  obtain ⟨a, rfl, ha⟩ := scr_of ru
  refine .inl ⟨a, _, i, .int n, rfl, rfl, ha, ?_, p _ _ H M q s (Kn.refl _) (.int n)⟩
  unfold atI at h ⊢
  rw [List.length_map]
  cases e : ixN ns.length i with
  | none =>
    rw [e] at h
    cases h
  | some j =>
    rw [e] at h
    have h' : ns[j]? = some n := h
    show (ns.map V.int)[j]? = _
    rw [List.getElem?_map, h']
    rfl
theorem tru_scr {ns : List Int} : ∀ u H1, Sta M H1 → Rp (imm H1 M) u (scr K ns) → TruV K u H1 (!ns.isEmpty) := fun u H1 s r => by
  obtain ⟨a, rfl, ha⟩ := scr_of r
  refine .inl ⟨_, ha, ?_⟩
  cases ns <;> rfl
/-! ### slices -/
def rSlA (K : PySem.W.Frag) : V → Option Int → Option Int → Hp → VK → Prop := fun x lo hi H Q => rSlL K x lo hi H Q ∨ (rSlT K x lo hi H Q ∨ rSlS x lo hi H Q)
theorem sl_A : SlR Y (rSlA Y.K) := sl_list.or (sl_tup.or sl_str)
theorem sl_L {x : D} {ds : List D} {lo hi : Option Int} (hx : isL M x ds) (q : Q (.lst (cutL ds lo hi)) M) : lSl (rSlA K) x lo hi M Q := fun u H k s ru p => by
  obtain ⟨a, vs, rfl, ha, hr⟩ := isL_sq hx s ru
  exact .inl ⟨a, vs, rfl, SqL.of ha, fun c hc => p _ _ _ M q (s.new hc) (Stp.new hc) (.lst (imm_new s hc) ((hr.cut lo hi).mono (Stp.new hc)))⟩
theorem sl_LM {x : D} {ds : List D} {lo hi : Option Int} (hx : isL M x ds) (q : ∀ a, M a = none → Q (.ref a) (upM M a (.lst (cutL ds lo hi)))) : lSl (rSlA K) x lo hi M Q := fun u H k s ru p => by
  obtain ⟨a, vs, rfl, ha, hr⟩ := isL_sq hx s ru
  exact .inl ⟨a, vs, rfl, SqL.of ha, fun c hc => p _ _ _ _ (q c (s.fresh hc)) (s.newC hc ⟨_, rfl, hr.cut lo hi⟩) (Stp.newC hc) (.ref c)⟩
theorem sl_S {z : List Nat} {lo hi : Option Int} (hl : z.length ≤ 100000) (q : Q (.str (cutL z lo hi)) M) : lSl (rSlA K) (.str z) lo hi M Q := fun u H k s ru p => by
  cases ru
  refine .inr (.inr ⟨_, rfl, by rw [SX.S_len]; exact line_le hl, ?_⟩)
  rw [cutS_cutL]
  exact p _ _ H M q s (Kn.refl _) (.str _)
theorem cut_to {α : Type} {xs : List α} {n : Nat} : cutL xs none (some (n : Int)) = xs.take n := by
  unfold cutL
  rw [HT.sIx_none, HT.sIx_nat, List.drop_zero, Nat.sub_zero]
  by_cases h : n ≤ xs.length
  · rw [Nat.min_eq_left h]
  · rw [Nat.min_eq_right (by omega), List.take_of_length_le (Nat.le_refl _), List.take_of_length_le (by omega)]
theorem cut_from {α : Type} {xs : List α} {n : Nat} : cutL xs (some (n : Int)) none = xs.drop n := by
  unfold cutL
  rw [HT.sIx_none, HT.sIx_nat]
  by_cases h : n ≤ xs.length
  · rw [Nat.min_eq_left h]
    exact List.take_of_length_le (by rw [List.length_drop]; omega)
  · rw [Nat.min_eq_right (by omega), List.drop_of_length_le (Nat.le_refl _), List.drop_of_length_le (by omega), List.take_nil]
theorem cut_mid {α : Type} {xs : List α} {m n : Nat} : cutL xs (some (m : Int)) (some ((m + n : Nat) : Int)) = (xs.drop m).take n := by
  unfold cutL
  rw [HT.sIx_nat, HT.sIx_nat]
  by_cases h : m ≤ xs.length
  · rw [Nat.min_eq_left h]
    by_cases h2 : m + n ≤ xs.length
    · rw [Nat.min_eq_left h2, show m + n - m = n by omega]
    · rw [Nat.min_eq_right (by omega), List.take_of_length_le (by rw [List.length_drop]; omega), List.take_of_length_le (by rw [List.length_drop]; omega)]
  · have e1 : min (m + n) xs.length = xs.length := Nat.min_eq_right (by omega)
    have e2 : min m xs.length = xs.length := Nat.min_eq_right (by omega)
    rw [e1, e2, List.drop_of_length_le (Nat.le_refl _), List.drop_of_length_le (by omega : xs.length ≤ m), List.take_nil, List.take_nil]
theorem cut_butlast {α : Type} {xs : List α} : cutL xs none (some (-1)) = xs.dropLast := by
  unfold cutL
  rw [HT.sIx_none, List.drop_zero, Nat.sub_zero, List.dropLast_eq_take]
  have e : HT.sIx xs.length xs.length (some (-1)) = xs.length - 1 := by
    have h := HT.clip_eq (-1) xs.length xs.length
    rw [if_pos (by omega)] at h
    omega
  rw [e]
theorem cut_last {α : Type} {xs : List α} : cutL xs (some (-1)) none = xs.drop (xs.length - 1) := by
  unfold cutL
  rw [HT.sIx_none]
  have e : HT.sIx xs.length 0 (some (-1)) = xs.length - 1 := by
    have h := HT.clip_eq (-1) xs.length 0
    rw [if_pos (by omega)] at h
    omega
  rw [e]
  exact List.take_of_length_le (by rw [List.length_drop]; omega)
/-! ### len -/
def rLenA (K : PySem.W.Frag) : List V → Hp → VK → Prop := fun xs H Q => (∃ x n, xs = [x] ∧ LenV K x H n ∧ Q (.int (n : Nat)) H) ∨ ∃ a kvs, xs = [.ref a] ∧ H a = some (.dK kvs) ∧ Q (.int (kvs.length : Nat)) H
theorem c_lenS {a : List Nat} (hl : a.length ≤ 100000) (q : Q (.int (a.length : Int)) M) : lC (rLenA K) [.str a] M Q := fun us H k s r p => by
  cases r with
  | cons r1 r2 =>
    cases r2
    cases r1
    refine .inl ⟨_, _, rfl, ⟨by rw [SX.S_len]; exact line_le hl, rfl⟩, ?_⟩
    rw [SX.S_len]
    exact p _ _ H M q s (Kn.refl _) (.int _)
theorem c_len {x : D} {ds : List D} (hx : isSq M x ds) (q : Q (.int (ds.length : Int)) M) : lC (rLenA K) [x] M Q := fun us H k s r p => by
  cases r with
  | cons r1 r2 =>
    cases r2
    obtain ⟨a, vs, rfl, ha, hr⟩ := isSq_sq (K := K) hx s r1
    refine .inl ⟨_, vs.length, rfl, ?_, ?_⟩
    · rcases ha with ha | ha
      · exact .inl ⟨vs, ha, rfl⟩
      · exact .inr ⟨vs, ha, rfl⟩
    · rw [hr.length]
      exact p _ _ H M q s (Kn.refl _) (.int _)
theorem c_lenC {ns : List Int} (q : Q (.int (ns.length : Int)) M) : lC (rLenA K) [scr K ns] M Q := fun us H k s r p => by
  cases r with
  | cons r1 r2 =>
    cases r2
    obtain ⟨a, rfl, ha⟩ := scr_of r1
    refine .inl ⟨_, (ns.map V.int).length, rfl, .inl ⟨_, ha, rfl⟩, ?_⟩
    rw [List.length_map]
    exact p _ _ H M q s (Kn.refl _) (.int _)
theorem c_lenD {a : Addr} {kvs : List (Key × D)} (h : M a = some (.dic kvs)) (q : Q (.int (kvs.length : Int)) M) : lC (rLenA K) [.ref a] M Q := fun us H k s r p => by
  cases r with
  | cons r1 r2 =>
    cases r2
    cases r1
    obtain ⟨vs, ha, hr⟩ := s.dic h
    refine .inr ⟨a, vs, rfl, ha, ?_⟩
    rw [hr.length]
    exact p _ _ H M q s (Kn.refl _) (.int _)
theorem cr_lenA : CallR Y (.builtin "len") (rLenA Y.K) := by
  intro pins s σ H xs us Q I r h
  rcases h with h | ⟨a, kvs, e, ha, q⟩
  · exact call_len pins s σ H xs us Q I r h
  · exact call_lenD pins s σ H xs us Q I r ⟨a, kvs, e, ha, q⟩
/-! ### all, ord, list, tuple, min, max -/
theorem c_all {x : D} {bs : List Bool} (hx : isL M x (bs.map D.bl)) (q : Q (.bl (bs.all id)) M) : lC (rAll K) [x] M Q := fun us H k s r p => by
  cases r with
  | cons r1 r2 =>
    cases r2
    obtain ⟨a, vs, rfl, ha, hr⟩ := isL_sq hx s r1
    have e := hr.to_bls
    subst e
    exact ⟨a, bs, rfl, SqL.of ha, p _ _ H M q s (Kn.refl _) (.bl _)⟩
def rOrd : List V → Hp → VK → Prop := fun xs H Q => ∃ x : Str, xs = [.str x] ∧ x.length = 1 ∧ Q (.int (x.cps.getD 0 0 : Nat)) H
theorem cr_ord : CallR Y (.builtin "ord") rOrd := call_ord
theorem c_ord {c : Nat} (q : Q (.int (c : Int)) M) : lC rOrd [.str [c]] M Q := fun us H k s r p => by
  cases r with
  | cons r1 r2 =>
    cases r2
    cases r1
    exact ⟨S [c], rfl, rfl, p _ _ H M q s (Kn.refl _) (.int _)⟩
def rListA (K : PySem.W.Frag) : List V → Hp → VK → Prop := fun xs H Q => ∃ p ys, xs = [.ref p] ∧ (SqL K H p ys ∨ SqT K H p ys) ∧ ∀ l, H l = none → Q (.ref l) (upd H l (.lst ys))
theorem cr_listA : CallR Y (.type "list") (rListA Y.K) := call_list_of
theorem c_list {x : D} {ds : List D} (hx : isSq M x ds) (q : Q (.lst ds) M) : lC (rListA K) [x] M Q := fun us H k s r p => by
  cases r with
  | cons r1 r2 =>
    cases r2
    obtain ⟨a, vs, rfl, ha, hr⟩ := isSq_sq (K := K) hx s r1
    exact ⟨a, vs, rfl, ha, fun c hc => p _ _ _ M q (s.new hc) (Stp.new hc) (.lst (imm_new s hc) (hr.mono (Stp.new hc)))⟩
theorem c_listM {x : D} {ds : List D} (hx : isSq M x ds) (q : ∀ a, M a = none → Q (.ref a) (upM M a (.lst ds))) : lC (rListA K) [x] M Q := fun us H k s r p => by
  cases r with
  | cons r1 r2 =>
    cases r2
    obtain ⟨a, vs, rfl, ha, hr⟩ := isSq_sq (K := K) hx s r1
    exact ⟨a, vs, rfl, ha, fun c hc => p _ _ _ _ (q c (s.fresh hc)) (s.newC hc ⟨_, rfl, hr⟩) (Stp.newC hc) (.ref c)⟩
def rTupA (K : PySem.W.Frag) : List V → Hp → VK → Prop := fun xs H Q => ∃ p ys, xs = [.ref p] ∧ ((SqL K H p ys ∧ ∀ l, H l = none → Q (.ref l) (upd H l (.tup ys))) ∨ (SqT K H p ys ∧ Q (.ref p) H))
theorem cr_tupA : CallR Y (.type "tuple") (rTupA Y.K) := call_tuple_of
theorem c_tuple {x : D} {ds : List D} (hx : isL M x ds) (q : Q (.tup ds) M) : lC (rTupA K) [x] M Q := fun us H k s r p => by
  cases r with
  | cons r1 r2 =>
    cases r2
    obtain ⟨a, vs, rfl, ha, hr⟩ := isL_sq hx s r1
    exact ⟨a, vs, rfl, .inl ⟨SqL.of ha, fun c hc => p _ _ _ M q (s.new hc) (Stp.new hc) (.tup (imm_new s hc) (hr.mono (Stp.new hc)))⟩⟩
def rMax2 : List V → Hp → VK → Prop := fun xs H Q => ∃ i j : Int, xs = [.int i, .int j] ∧ Q (.int (if j > i then j else i)) H
def rMin2 : List V → Hp → VK → Prop := fun xs H Q => ∃ i j : Int, xs = [.int i, .int j] ∧ Q (.int (if j < i then j else i)) H
theorem cr_max2 (hc : Y.calm = true) : CallR Y (.builtin "max") rMax2 := call_max2 hc
theorem cr_min2 (hc : Y.calm = true) : CallR Y (.builtin "min") rMin2 := call_min2 hc
theorem c_max2 {i j : Int} (q : Q (.int (if j > i then j else i)) M) : lC rMax2 [.int i, .int j] M Q := fun us H k s r p => by
  cases r with
  | cons r1 r2 =>
    cases r2 with
    | cons r2 r3 =>
      cases r3
      cases r1
      cases r2
      exact ⟨i, j, rfl, p _ _ H M q s (Kn.refl _) (.int _)⟩
theorem c_min2 {i j : Int} (q : Q (.int (if j < i then j else i)) M) : lC rMin2 [.int i, .int j] M Q := fun us H k s r p => by
  cases r with
  | cons r1 r2 =>
    cases r2 with
    | cons r2 r3 =>
      cases r3
      cases r1
      cases r2
      exact ⟨i, j, rfl, p _ _ H M q s (Kn.refl _) (.int _)⟩
/-! ### methods of texts -/
def rLower : V → List V → Hp → VK → Prop := fun x xs H Q => ∃ a, x = .str a ∧ xs = [] ∧ a.length ≤ 5592405 ∧ Q (.str (PySem.Txt.lower a)) H
def rUpper : V → List V → Hp → VK → Prop := fun x xs H Q => ∃ a, x = .str a ∧ xs = [] ∧ a.length ≤ 5592405 ∧ Q (.str (PySem.Txt.upper a)) H
def rStarts : V → List V → Hp → VK → Prop := fun x xs H Q => ∃ a b, x = .str a ∧ xs = [.str b] ∧ Q (.bl (PySem.Txt.startswith a b)) H
def rFind : V → List V → Hp → VK → Prop := fun x xs H Q => ∃ a b, x = .str a ∧ xs = [.str b] ∧ Q (.int (PySem.Txt.find a b)) H
def rSplit : V → List V → Hp → VK → Prop := fun x xs H Q => ∃ a b, x = .str a ∧ xs = [.str b] ∧ (b.length == 0) = false ∧ a.length + 2 ≤ sizeLine ∧ rNewStrs (PySem.Txt.split a b) H Q
def rJoin (K : PySem.W.Frag) : V → List V → Hp → VK → Prop := fun x xs H Q => ∃ a p, ∃ ys : List Str, x = .str a ∧ xs = [.ref p] ∧ (SqL K H p (ys.map V.str) ∨ SqT K H p (ys.map V.str)) ∧ (ys.map (·.length)).sum + ys.length * a.length ≤ 16777216 ∧ Q (.str (PySem.Txt.join a ys)) H
theorem mt_lowerD : MtR Y "str.lower" rLower := mt_lower
theorem mt_upperD : MtR Y "str.upper" rUpper := mt_upper
theorem mt_startsD : MtR Y "str.startswith" rStarts := mt_startswith
theorem mt_findD : MtR Y "str.find" rFind := mt_find
theorem mt_splitD : MtR Y "str.split" rSplit := mt_split
theorem mt_joinD : MtR Y "str.join" (rJoin Y.K) := mt_join
/-- plain letters -/
def asc (a : List Nat) : Bool := a.all (· < 128)
theorem m_lower {a : List Nat} (h : asc a = true) (hl : a.length ≤ 100000) (q : Q (.str (a.map PyProof.Rows.lo1)) M) : lM rLower (.str a) [] M Q := fun u us H k s ru rs p => by
  cases ru
  cases rs
  refine ⟨_, rfl, rfl, by rw [SX.S_len]; omega, ?_⟩
  rw [SX.lower_S h]
  exact p _ _ H M q s (Kn.refl _) (.str _)
theorem m_upper {a : List Nat} (h : asc a = true) (hl : a.length ≤ 100000) (q : Q (.str (a.map PyProof.Rows.up1)) M) : lM rUpper (.str a) [] M Q := fun u us H k s ru rs p => by
  cases ru
  cases rs
  refine ⟨_, rfl, rfl, by rw [SX.S_len]; omega, ?_⟩
  rw [SX.upper_S h]
  exact p _ _ H M q s (Kn.refl _) (.str _)
theorem m_starts {a b : List Nat} (q : Q (.bl (isAt b a 0)) M) : lM rStarts (.str a) [.str b] M Q := fun u us H k s ru rs p => by
  cases ru
  cases rs with
  | cons r1 r2 =>
    cases r2
    cases r1
    refine ⟨_, _, rfl, rfl, ?_⟩
    rw [starts_is]
    exact p _ _ H M q s (Kn.refl _) (.bl _)
def findI (y x : List Nat) : Int := match findAt y x with | some i => (i : Int) | none => -1
theorem m_find {a b : List Nat} (q : Q (.int (findI b a)) M) : lM rFind (.str a) [.str b] M Q := fun u us H k s ru rs p => by
  cases ru
  cases rs with
  | cons r1 r2 =>
    cases r2
    cases r1
    refine ⟨_, _, rfl, rfl, ?_⟩
    rw [find_is]
    exact p _ _ H M q s (Kn.refl _) (.int _)
theorem m_split {a b : List Nat} (hb : b ≠ []) (hk : b.all (· < 256) = true) (hl : a.length ≤ 100000) (q : Q (.lst ((TL.spl b 0 [] a).map D.str)) M) : lM rSplit (.str a) [.str b] M Q := fun u us H k s ru rs p => by
  cases ru
  cases rs with
  | cons r1 r2 =>
    cases r2
    cases r1
    refine ⟨_, _, rfl, rfl, ?_, ?_, fun c hc => ?_⟩
    · rw [SX.S_len]
      cases b with
      | nil => exact absurd rfl hb
      | cons x r => rfl
    · rw [SX.S_len]
      rw [sizeLine_eq]
      omega
    · rw [SX.split_S hb hk, List.map_map]
      exact p _ _ _ M q (s.new hc) (Stp.new hc) (.lst (imm_new s hc) (RpL.strs _))
theorem sum_lens (ys : List (List Nat)) : ((ys.map S).map (·.length)).sum = (ys.map (·.length)).sum := by
  rw [SX.lens]
theorem m_join {a : List Nat} {x : D} {ys : List (List Nat)} (hx : isSq M x (ys.map D.str)) (hl : (ys.map (·.length)).sum + ys.length * a.length ≤ 100000) (q : Q (.str (TL.joinL a ys)) M) : lM (rJoin K) (.str a) [x] M Q := fun u us H k s ru rs p => by
  cases ru
  cases rs with
  | cons r1 r2 =>
    cases r2
    obtain ⟨b, vs, rfl, hb, hr⟩ := isSq_sq (K := K) hx s r1
    have e := hr.to_strs
    subst e
    have em : (ys.map fun x => V.str (S x)) = (ys.map S).map V.str := by rw [List.map_map]; rfl
    refine ⟨_, b, ys.map S, rfl, rfl, by rw [← em]; exact hb, ?_, ?_⟩
    · rw [sum_lens, List.length_map, SX.S_len]
      omega
    · rw [SX.join_S]
      exact p _ _ H M q s (Kn.refl _) (.str _)
/-! ### methods of lists -/
theorem m_append {a : Addr} {ds : List D} {d : D} (h : M a = some (.lst ds)) (hl : ds.length ≤ 100000) (q : Q .non (upM M a (.lst (ds ++ [d])))) : lM rAppend (.ref a) [d] M Q := fun u us H k s ru rs p => by
  cases ru
  cases rs with
  | cons r1 r2 =>
    cases r2
    obtain ⟨vs, ha, hr⟩ := s.lst h
    exact ⟨a, vs, _, rfl, rfl, ha, by rw [hr.length]; exact line_lt hl, p _ _ _ _ q (s.set h ⟨_, rfl, hr.append (.cons r1 .nil)⟩) (Stp.set h) .non⟩
def rCntF (K : PySem.W.Frag) : V → List V → Hp → VK → Prop := fun x xs H Q => ∃ (p : Addr) (ys : List V) (y : V), x = .ref p ∧ xs = [y] ∧ SqL K H p ys ∧ flatV y = true ∧ ys.all flatV = true ∧ Q (.int (ys.countP (fun z => eqV z y) : Nat)) H
theorem countP_eqU {x : V} : ∀ {xs : List V} {us : List Value}, Vals xs us → xs.all flatV = true → us.countP (eqU x) = xs.countP fun y => eqV y x
  | _, _, .nil, _ => rfl
  | y :: xs, u :: us, .cons r t, f => by
    rw [List.all_cons, Bool.and_eq_true] at f
    rw [List.countP_cons, List.countP_cons, eqU_of r f.1, countP_eqU t f.2]
theorem mt_cntF : MtR Y "list.count" (rCntF Y.K) := by
  intro pins s σ H x xs v us Q I rx rxs h
  obtain ⟨p, ys, y, rfl, rfl, hs, fy, fys, q⟩ := h
  cases rx
  obtain ⟨u, rfl, ru⟩ := rxs.one
  obtain ⟨its, rv, ⟨⟨cls, dd, data, sl⟩, n, ho, hc, hdn, hd⟩, hlen⟩ := I.list hs
  simp only at hc hd
  subst hc hd
  refine call_meets PySem.F.slot_list_count ⟨_, ho, rfl⟩ PySem.F.entry_list_count (PySem.F.args_list_count_2 _ _)
    (SeqAt.list_countAt p its.toArray n dd sl u (eqU y)) ⟨ho, fun w hw => mem_eqAt ru fy rv fys w (by simpa using hw), ?_⟩
  have ec : its.toArray.toList.countP (eqU y) = ys.countP fun z => eqV z y := countP_eqU rv fys
  refine ⟨.int (ys.countP (fun z => eqV z y) : Nat), H, I.tok _, ⟨s.toks, ?_⟩, q⟩
  show Value.int ((its.toArray.toList.countP (eqU y) : Nat) : Int) s.toks = Value.int ((ys.countP (fun z => eqV z y) : Nat) : Int) s.toks
  rw [ec]
theorem m_count {x d : D} {ds : List D} (hx : isL M x ds) (hd : flatD d = true) (hds : ds.all flatD = true) (q : Q (.int (ds.countP (fun e => eqF e d) : Nat)) M) : lM (rCntF K) x [d] M Q := fun u us H k s ru rs p => by
  cases rs with
  | cons r1 r2 =>
    cases r2
    obtain ⟨a, vs, rfl, ha, hr⟩ := isL_sq hx s ru
    refine ⟨a, vs, _, rfl, rfl, SqL.of ha, flat_rp hd r1, flats_rp hds hr, ?_⟩
    rw [count_rp hd r1 hds hr]
    exact p _ _ H M q s (Kn.refl _) (.int _)
theorem m_index {x d e : D} {ds : List D} {j : Nat} (hx : isL M x ds) (hd : flatD d = true) (hds : ds.all flatD = true) (hj : ds[j]? = some e) (he : eqF e d = true) (hn : ∀ m e', m < j → ds[m]? = some e' → eqF e' d = false) (q : Q (.int (j : Int)) M) : lM (rIndex K) x [d] M Q := fun u us H k s ru rs p => by
  cases rs with
  | cons r1 r2 =>
    cases r2
    obtain ⟨a, vs, rfl, ha, hr⟩ := isL_sq hx s ru
    obtain ⟨z, hz, rz⟩ := hr.getD hj
    have fe : ∀ {m : Nat} {e' : D}, ds[m]? = some e' → flatD e' = true := fun h => List.all_eq_true.mp hds _ (List.mem_of_getElem? h)
    refine ⟨a, vs, _, j, z, rfl, rfl, SqL.of ha, flat_rp hd r1, flats_rp hds hr, hz, ?_, fun m z' hm hz' => ?_, p _ _ H M q s (Kn.refl _) (.int _)⟩
    · rw [eqF_rp (fe hj) hd rz r1]
      exact he
    · obtain ⟨e', he', re'⟩ := hr.get hz'
      rw [eqF_rp (fe he') hd re' r1]
      exact hn m e' hm he'
theorem op_isNo : OpR Y (compareOp .Is) rIsNo := op_isN
theorem op_notNo : OpR Y (compareOp .IsNot) rNotNo := op_notN
end
/-- where things stand: the written part, the classes, a table -/
structure G where
  K : PySem.W.Frag
  cE : Addr
  cT : Addr
  cN : Addr
  cA : Addr
  cS : Addr
  cH : Addr
  cR : Addr
  cK : Addr
  a_WORDS : Addr
abbrev rSubA : R2 := rI0 fun i j => .int (i - j)
abbrev rLtA : R2 := rI0 fun i j => .bl (decide (i < j))
abbrev rLeA : R2 := rI0 fun i j => .bl (decide (i ≤ j))
abbrev rGtA : R2 := rI0 fun i j => .bl (decide (j < i))
abbrev rGeA : R2 := rI0 fun i j => .bl (decide (j ≤ i))
abbrev rModA : R2 := rI (fun _ j => 0 < j) fun i j => .int (i % j)
abbrev rFdivA : R2 := rI CDiv fun i j => .int (i / j)
abbrev rPowA : R2 := rI CPow fun i j => .int (i ^ j.toNat)
abbrev rNegA : V → Hp → VK → Prop := rU fun i => .int (-i)
def tTruA (K : PySem.W.Frag) (ta : TE) : TT := fun σ H Q => ta σ H fun x H' => ∃ k, TruV K x H' k ∧ Q k H'
section
variable {X : Cx} {x : Str} {pos : Pos}
theorem pe_gi {n : Int} (hg : Gl X x) (h : ∃ t, X.mg x = some (.int n t)) (hd : (x == ("__debug__" : Str)) = false := by decide) : PE X (.Name x pos) (tC (.int n)) := by
  obtain ⟨t, h⟩ := h
  exact pe_glob hg h ⟨t, rfl⟩ hd
theorem pe_strN {x : Str} {s : List Nat} {j : Nat} (h : x = S s) : PE X (.Constant (.str x) j pos) (tC (.str (S s))) := by
  rw [← h]
  exact pe_str
theorem pe_gsN {n : Str} {s : List Nat} (hg : Gl X x) (h : ∃ t, X.mg x = some (.str n t)) (e : n = S s) (hd : (x == ("__debug__" : Str)) = false := by decide) : PE X (.Name x pos) (tC (.str (S s))) := by
  rw [← e]
  obtain ⟨t, h⟩ := h
  exact pe_glob hg h ⟨t, rfl⟩ hd
theorem pe_gs {n : Str} (hg : Gl X x) (h : ∃ t, X.mg x = some (.str n t)) (hd : (x == ("__debug__" : Str)) = false := by decide) : PE X (.Name x pos) (tC (.str n)) := by
  obtain ⟨t, h⟩ := h
  exact pe_glob hg h ⟨t, rfl⟩ hd
end
section
variable {W : WX} {X : XD} {ρ : En} {M : Mh} {Q : D → Mh → Prop} {A : DE} {K : PySem.W.Frag}
theorem t_truA {ta : TE} {QT : Bool → Mh → Prop} (h : lE W ta ρ M (fun x M1 => ∃ b, (∀ u H1, Sta M1 H1 → Rp (imm H1 M1) u x → TruV K u H1 b) ∧ QT b M1) X) : lT W (tTruA K ta) ρ M QT X := t_truth h
theorem l_strS {s : List Nat} (q : Q (.str s) M) : lE W (tC (.str (S s))) ρ M Q X := fun _ H _ s _ p _ => p _ _ H M q s (Kn.refl _) (.str _)
theorem l_chainA {r r' : R2} {ta tb tc : TE} (h : lE W ta ρ M (fun x M1 => lE W tb ρ M1 (fun y M2 => lR r x y M2 (fun z M3 => ∃ b, z = .bl b ∧ (b = true → lE W tc ρ M3 (fun w M4 => lR r' y w M4 Q) X) ∧ (b = false → Q (.bl false) M3))) X) X) : lE W (tChain r r' ta tb tc) ρ M Q X := l_chain h
theorem g_nameN {i : Nat} {d : D} {ρ' : En} {QG : En → Mh → Prop} (h : ρ.set i (some d) = ρ') (q : QG ρ' M) : lG W (gName i) d ρ M QG X := g_name (by rw [h]; exact q)
theorem t_yes {QT : Bool → Mh → Prop} (q : QT true M) : lT W tYes ρ M QT X := fun σ H k s e p px => p true H M q s (Kn.refl _)
theorem br_t {A B : Prop} (h : A) : (true = true → A) ∧ (true = false → B) := ⟨fun _ => h, (fun z => nomatch z)⟩
theorem br_f {A B : Prop} (h : B) : (false = true → A) ∧ (false = false → B) := ⟨(fun z => nomatch z), fun _ => h⟩
/-- a def's body keeps its promise, told by data -/
def Keeps (n : Nat) (N : List Str) (t : WX → TS) (ds : DSp) : Prop := ∀ (W : WX) (xs : List D) (M : Mh) (Q : D → Mh → Prop) (E : Addr → Mh → Prop), xs.length = n → ds xs M Q E →
  lS W (t W) (xs.map some ++ List.replicate (N.length - n) none) M ⟨fun _ M' => Q .non M', Q, fun _ _ => False, fun _ _ => False⟩ (fun c _ M' => E c M')
/-- a chain's answer: both -/
theorem both {P : Prop} {b c : Bool} (h : (b && c) = true → P) (h2 : (b && c) = false → P) : P := by
  cases e : (b && c) with
  | true => exact h e
  | false => exact h2 e
theorem lT_bool {t : TT} {QT : Bool → Mh → Prop} {b : Bool} (h : lT W t ρ M (fun b' M1 => b' = b ∧ M1 = M) X) (q : QT b M) : lT W t ρ M QT X := fun σ H k s e p px =>
  h σ H k s e (fun b' H1 M1 ⟨e1, e2⟩ s1 t1 => p b' H1 M1 (by rw [e1, e2]; exact q) s1 t1) px
theorem lE_val {t : TE} {d : D} (h : lE W t ρ M (fun d' M1 => d' = d ∧ M1 = M) X) (q : Q d M) : lE W t ρ M Q X := fun σ H k s e p px =>
  h σ H k s e (fun v d' H1 M1 ⟨e1, e2⟩ s1 t1 r => p v d' H1 M1 (by rw [e1, e2]; exact q) s1 t1 r) px
end

/-! ### sorted -/
section
variable {W : WX} {X : XD} {ρ : En} {M : Mh} {Q : D → Mh → Prop} {A : DE} {K : PySem.W.Frag} {Y : Cx}
abbrev leD (a b : D) : Bool := PySem.W.dataLe false toPy a b
abbrev srt (ds : List D) : List D := ds.mergeSort leD
def rSortA (K : PySem.W.Frag) : List V → Hp → VK → Prop := fun xs H Q => ∃ (p : Addr) (zs : List (V × PyData)), xs = [.ref p] ∧ SqL K H p (zs.map (·.1)) ∧ (∀ z, z ∈ zs → Dp K H z.1 z.2) ∧ PySem.W.AllAlike (zs.map (·.2)) ∧ PySem.W.Sortable (zs.map (·.2)) ∧
  (∀ z, z ∈ zs → z.2.depth ≤ 60) ∧ ∀ l, H l = none → Q (.ref l) (upd H l (.lst ((zs.mergeSort (PySem.W.dataLe false (·.2))).map (·.1))))
theorem each_zs {H : Hp} {pins : List (Addr × Obj)} {σ : L2.St} {s : Shared} (I : Inv Y pins σ H s) : ∀ {zs : List (V × PyData)} {us : List Value}, Vals (zs.map (·.1)) us → (∀ z, z ∈ zs → Dp Y.K H z.1 z.2) → PySem.W.EachIs (fun u z => RelV z.1 u) us zs ∧ PySem.W.EachIs (fun v (b : V × PyData) => ∃ as, Reads s.heap v b.2 as) us zs
  | [], _, r, _ => by
    cases r
    exact ⟨.nil, .nil⟩
  | z :: zs, _, r, h => by
    cases r with
    | cons r1 r2 =>
      obtain ⟨a, b⟩ := each_zs I r2 fun z m => h z (List.mem_cons_of_mem _ m)
      exact ⟨.cons r1 a, .cons (Dp.reads I _ _ _ (h z List.mem_cons_self) r1) b⟩
theorem vals_each : ∀ {zs : List (V × PyData)} {us : List Value}, PySem.W.EachIs (fun u (z : V × PyData) => RelV z.1 u) us zs → Vals (zs.map (·.1)) us
  | _, _, .nil => .nil
  | _, _, .cons r t => .cons r (vals_each t)
theorem cr_sortA (hu : Y.A.units + 64 < cLine) : CallR Y (.builtin "sorted") (rSortA Y.K) := by
  intro pins s σ H vs us Q I r h
  obtain ⟨p, zs, rfl, hs, hd, ha, hk, hb, q⟩ := h
  obtain ⟨its, rv, hl, hz⟩ := I.list hs
  obtain ⟨u, rfl, ru⟩ := vals1 r
  obtain rfl : u = Value.ref p := ru
  obtain ⟨e1, e2⟩ := each_zs I rv hd
  have hz' : zs.length ≤ sizeLine := by
    rw [List.length_map] at hz
    exact hz
  refine PySem.W.sorted_data hl.isList e1 e2 ha hk hz' (fun b m => by have := hb b m; omega) fun out h1 h2 => ?_
  have hv := vals_each h2
  obtain ⟨ep, he⟩ := PyProof.Rows.sortedAll_at s.heap its out.toArray
  refine ⟨.ref _, upd H (s.heap.objs.size + 1) (.lst ((zs.mergeSort (PySem.W.dataLe false (·.2))).map (·.1))), I.laid (t' := s.toks) (fun _ _ => PyProof.Rows.sortedAll_old) (Nat.le_succ _) ⟨?_, out, ep, hv, he⟩, rfl, q _ (I.hok.fresh (Nat.le_succ _))⟩
  rw [List.length_map, List.length_mergeSort]
  exact hz'
theorem rpl_zip {I : Hp} : ∀ {vs : List V} {ds : List D}, RpL I vs ds → (vs.zip ds).map (·.1) = vs ∧ (vs.zip ds).map (·.2) = ds ∧ ∀ z, z ∈ vs.zip ds → Rp I z.1 z.2
  | _, _, .nil => ⟨rfl, rfl, fun z m => absurd m (by simp)⟩
  | _, _, .cons r t => by
    obtain ⟨a, b, c⟩ := rpl_zip t
    refine ⟨by simp [a], by simp [b], fun z m => ?_⟩
    rcases List.mem_cons.mp m with rfl | m
    · exact r
    · exact c z m
theorem rpl_of {I : Hp} : ∀ {zs : List (V × D)}, (∀ z, z ∈ zs → Rp I z.1 z.2) → RpL I (zs.map (·.1)) (zs.map (·.2))
  | [], _ => .nil
  | z :: zs, h => .cons (h z List.mem_cons_self) (rpl_of fun z m => h z (List.mem_cons_of_mem _ m))
theorem plains_mem : ∀ {ds : List D} {d : D}, plains ds = true → d ∈ ds → plain d = true
  | e :: ds, d, h, m => by
    rw [plains, Bool.and_eq_true] at h
    rcases List.mem_cons.mp m with rfl | m
    · exact h.1
    · exact plains_mem h.2 m
theorem merge_map {α β : Type} {f : α → β} {r : α → α → Bool} {s : β → β → Bool} (h : ∀ a b, r a b = s (f a) (f b)) (xs : List α) : (xs.mergeSort r).map f = (xs.map f).mergeSort s := List.map_mergeSort fun a _ b _ => h a b
/-- ready to be sorted -/
structure SortOk (ds : List D) : Prop where
  pl : plains ds = true
  al : PySem.W.AllAlike (ds.map toPy)
  so : PySem.W.Sortable (ds.map toPy)
  dp : ∀ d, d ∈ ds → (toPy d).depth ≤ 60
theorem sort_data {H : Hp} {vs : List V} {ds : List D} (s : Sta M H) (hr : RpL (imm H M) vs ds) (ok : SortOk ds) : ∃ zs : List (V × PyData), zs.map (·.1) = vs ∧ (∀ z, z ∈ zs → Dp K H z.1 z.2) ∧ PySem.W.AllAlike (zs.map (·.2)) ∧ PySem.W.Sortable (zs.map (·.2)) ∧ (∀ z, z ∈ zs → z.2.depth ≤ 60) ∧
    RpL (imm H M) ((zs.mergeSort (PySem.W.dataLe false (·.2))).map (·.1)) (srt ds) := by
  obtain ⟨e1, e2, e3⟩ := rpl_zip hr
  have emem : ∀ z : V × D, z ∈ vs.zip ds → z.2 ∈ ds := fun z m => by rw [← e2]; exact List.mem_map.mpr ⟨z, m, rfl⟩
  refine ⟨(vs.zip ds).map fun z => (z.1, toPy z.2), ?_, ?_, ?_, ?_, ?_, ?_⟩
  · rw [List.map_map]
    exact e1
  · intro z m
    obtain ⟨y, my, rfl⟩ := List.mem_map.mp m
    exact (e3 y my).dp (plains_mem ok.pl (emem y my))
  · rw [List.map_map]
    have : (vs.zip ds).map ((fun z : V × PyData => z.2) ∘ fun z : V × D => (z.1, toPy z.2)) = ds.map toPy := by
      conv => rhs; rw [← e2, List.map_map]
      rfl
    rw [this]
    exact ok.al
  · rw [List.map_map]
    have : (vs.zip ds).map ((fun z : V × PyData => z.2) ∘ fun z : V × D => (z.1, toPy z.2)) = ds.map toPy := by
      conv => rhs; rw [← e2, List.map_map]
      rfl
    rw [this]
    exact ok.so
  · intro z m
    obtain ⟨y, my, rfl⟩ := List.mem_map.mp m
    exact ok.dp _ (emem y my)
  · have h1 := merge_map (f := fun z : V × D => (z.1, toPy z.2)) (r := fun a b => leD a.2 b.2) (s := PySem.W.dataLe false (·.2)) (fun _ _ => rfl) (vs.zip ds)
    have h2 := merge_map (f := fun z : V × D => z.2) (r := fun a b => leD a.2 b.2) (s := leD) (fun _ _ => rfl) (vs.zip ds)
    rw [← h1, List.map_map]
    have h3 : srt ds = ((vs.zip ds).mergeSort fun a b => leD a.2 b.2).map (·.2) := by
      rw [h2]
      rw [e2]
    rw [h3]
    exact rpl_of fun z m => e3 z (List.mem_mergeSort.mp m)
theorem c_sort {x : D} {ds : List D} (hx : isL M x ds) (ok : SortOk ds) (q : Q (.lst (srt ds)) M) : lC (rSortA K) [x] M Q := fun us H k s r p => by
  cases r with
  | cons r1 r2 =>
    cases r2
    obtain ⟨a, vs, rfl, ha, hr⟩ := isL_sq hx s r1
    obtain ⟨zs, e1, e2, e3, e4, e5, e6⟩ := sort_data (K := K) s hr ok
    exact ⟨a, zs, rfl, by rw [e1]; exact SqL.of ha, e2, e3, e4, e5, fun c hc => p _ _ _ M q (s.new hc) (Stp.new hc) (.lst (imm_new s hc) (e6.mono (Stp.new hc)))⟩
theorem c_sortM {x : D} {ds : List D} (hx : isL M x ds) (ok : SortOk ds) (q : ∀ a, M a = none → Q (.ref a) (upM M a (.lst (srt ds)))) : lC (rSortA K) [x] M Q := fun us H k s r p => by
  cases r with
  | cons r1 r2 =>
    cases r2
    obtain ⟨a, vs, rfl, ha, hr⟩ := isL_sq hx s r1
    obtain ⟨zs, e1, e2, e3, e4, e5, e6⟩ := sort_data (K := K) s hr ok
    exact ⟨a, zs, rfl, by rw [e1]; exact SqL.of ha, e2, e3, e4, e5, fun c hc => p _ _ _ _ (q c (s.fresh hc)) (s.newC hc ⟨_, rfl, e6⟩) (Stp.newC hc) (.ref c)⟩
/-- all of one form -/
theorem plains_map {β : Type} {f : β → D} {bs : List β} (h : ∀ b, plain (f b) = true) : plains (bs.map f) = true := by
  induction bs with
  | nil => rfl
  | cons b bs ih => rw [List.map_cons, plains, h, ih]; rfl
theorem SortOk.of {β : Type} {f : β → D} {bs : List β} (hp : ∀ b, plain (f b) = true) (ha : ∀ b b', PySem.W.alike (toPy (f b)) (toPy (f b')) = true) (ht : (∀ b, ∃ x r, toPy (f b) = .tuple (x :: r)) ∨ ∀ b, toPy (f b) ≠ .none ∧ ∀ xs, toPy (f b) ≠ .tuple xs) (hd : ∀ b, (toPy (f b)).depth ≤ 60) : SortOk (bs.map f) where
  pl := plains_map hp
  al := by
    rw [List.map_map]
    exact PySem.W.AllAlike.of (enc := toPy ∘ f) ha
  so := by
    rw [List.map_map]
    rcases ht with h | h
    · exact PySem.W.Sortable.tuples (enc := toPy ∘ f) h
    · exact PySem.W.Sortable.others (enc := toPy ∘ f) h
  dp := fun d m => by
    obtain ⟨b, _, rfl⟩ := List.mem_map.mp m
    exact hd b
theorem srt_map {β : Type} (f : β → D) (bs : List β) : srt (bs.map f) = (bs.mergeSort fun a b => leD (f a) (f b)).map f := (merge_map (f := f) (r := fun a b => leD (f a) (f b)) (s := leD) (fun _ _ => rfl) bs).symm
/-! the order: total, and two that are alike both ways have the same signs -/
theorem leD_tot : PySem.W.TotalLe leD := PySem.W.sortLe_total (listOrd itemOrd) false fun b => PySem.W.keyToks (toPy b)
theorem leD_trans (a b c : D) (h1 : leD a b = true) (h2 : leD b c = true) : leD a c = true := leD_tot.trans a b c h1 h2
theorem leD_total (a b : D) : (leD a b || leD b a) = true := by
  rcases leD_tot.total a b with h | h
  · rw [h]; rfl
  · rw [h, Bool.or_true]
theorem leD_toks {a b : D} (h1 : leD a b = true) (h2 : leD b a = true) : PySem.W.keyToks (toPy a) = PySem.W.keyToks (toPy b) := by
  have e1 : (!lexLt itemOrd (PySem.W.keyToks (toPy b)) (PySem.W.keyToks (toPy a))) = true := h1
  have e2 : (!lexLt itemOrd (PySem.W.keyToks (toPy a)) (PySem.W.keyToks (toPy b))) = true := h2
  exact lex_total (O := itemOrd) _ _ (by simpa using e2) (by simpa using e1)
/-- sorted by a total order: any order of the same things -/
theorem sort_perm {α : Type} {le : α → α → Bool} (tr : ∀ a b c, le a b = true → le b c = true → le a c = true) (to : ∀ a b, (le a b || le b a) = true) {xs ys : List α} (p : xs.Perm ys) (an : ∀ a b, a ∈ xs → b ∈ xs → le a b = true → le b a = true → a = b) : xs.mergeSort le = ys.mergeSort le := by
  refine List.Perm.eq_of_pairwise (le := fun a b => le a b = true) (fun a b ha hb h1 h2 => an a b (List.mem_mergeSort.mp ha) (p.mem_iff.mpr (List.mem_mergeSort.mp hb)) h1 h2) (List.pairwise_mergeSort tr to xs) (List.pairwise_mergeSort tr to ys) ?_
  exact (List.mergeSort_perm xs le).trans (p.trans (List.mergeSort_perm ys le).symm)

/-! ### list.remove of a text -/
def eqS (k : Str) : Value → Bool
  | .str x _ => x == k
  | _ => false
def rRemF : V → List V → Hp → VK → Prop := fun x xs H Q => ∃ (l : Addr) (ss : List (List Nat)) (k : List Nat), x = .ref l ∧ xs = [.str (S k)] ∧ H l = some (.lst (ss.map fun s => V.str (S s))) ∧ k ∈ ss ∧ Q .non (upd H l (.lst ((ss.erase k).map fun s => V.str (S s))))
theorem eqS_gives {k : Str} {t : Tok} : ∀ {ss : List (List Nat)} {us : List Value}, Vals (ss.map fun s => V.str (S s)) us → ∀ y ∈ us, MeetsSeq.EqGives y (.str k t) (eqS k y)
  | [], _, r => by
    cases r
    exact fun y hy => absurd hy (by simp)
  | s :: ss, _, r => by
    cases r with
    | cons r1 r2 =>
      obtain ⟨t1, rfl⟩ := r1
      intro y hy
      rcases List.mem_cons.mp hy with rfl | hy
      · have h := SeqRoads2.EqGives.str (S s) k t1 t
        rw [SeqAt.str_beq] at h
        exact h
      · exact eqS_gives r2 y hy
theorem vals_strAt : ∀ {ss : List (List Nat)} {us : List Value} {i : Nat}, Vals (ss.map fun s => V.str (S s)) us → (h : i < us.length) → ∃ s t, ss[i]? = some s ∧ us[i] = .str (S s) t
  | [], _, _, r, h => by
    cases r
    exact absurd h (by simp)
  | s :: ss, _, 0, r, h => by
    cases r with
    | cons r1 r2 =>
      obtain ⟨t1, rfl⟩ := r1
      exact ⟨s, t1, rfl, rfl⟩
  | s :: ss, _, i + 1, r, h => by
    cases r with
    | cons r1 r2 =>
      obtain ⟨s', t, h1, h2⟩ := vals_strAt (i := i) r2 (by simpa using h)
      exact ⟨s', t, by simpa using h1, by simpa using h2⟩
theorem idx_erase : ∀ {ss : List (List Nat)} {k : List Nat}, k ∈ ss → ∃ j, j < ss.length ∧ ss[j]? = some k ∧ (∀ i, i < j → ss[i]? ≠ some k) ∧ ss.eraseIdx j = ss.erase k
  | s :: ss, k, h => by
    by_cases e : s = k
    · subst e
      exact ⟨0, by simp, rfl, fun i hi => by omega, by simp⟩
    · have h' : k ∈ ss := (List.mem_cons.mp h).resolve_left fun z => e z.symm
      obtain ⟨j, h1, h2, h3, h4⟩ := idx_erase h'
      refine ⟨j + 1, by simpa using h1, by simpa using h2, fun i hi => ?_, ?_⟩
      · cases i with
        | zero => simpa using e
        | succ i =>
          have := h3 i (by omega)
          simpa using this
      · rw [List.eraseIdx_cons_succ, h4, List.erase_cons]
        have : (s == k) = false := by simpa using e
        rw [this]
        rfl
theorem map_eraseIdxS (f : List Nat → V) : ∀ (ss : List (List Nat)) (j : Nat), (ss.map f).eraseIdx j = (ss.eraseIdx j).map f
  | [], j => by simp
  | a :: r, 0 => by simp
  | a :: r, j + 1 => by
    have ih := map_eraseIdxS f r j
    simp [ih]
theorem S_inj {a b : List Nat} (h : S a = S b) : a = b := by
  have e : (S a == S b) = (a == b) := SX.S_beq a b
  rw [h] at e
  have e2 : (a == b) = true := by rw [← e]; exact beq_self_eq_true _
  exact eq_of_beq e2
theorem mt_remF : MtM Y "list.remove" rRemF := by
  intro pins s σ H x xs v us Q I rx rxs h
  obtain ⟨l, ss, k, rfl, rfl, hH, hk, q⟩ := h
  cases rx
  obtain ⟨u, rfl, ru⟩ := rxs.one
  obtain ⟨t, rfl⟩ := ru
  obtain ⟨z, its, n, r, hl, e⟩ := I.lstM hH
  obtain ⟨j, hj, hjk, hno, he⟩ := idx_erase hk
  rw [List.length_map] at hl z
  have hjl : j < its.toArray.size := by rw [List.size_toArray]; omega
  refine call_meets PySem.F.slot_list_remove ⟨_, e, rfl⟩ PySem.F.entry_list_remove (PySem.F.args_list_remove_2 _ _)
    (MeetsSeq.list_remove l its.toArray n (.str (S k) t) (eqS (S k)) (fun y hy => eqS_gives r y (by simpa using hy)) j hjl ?_ ?_ (by rw [List.size_toArray]; omega)) ⟨e, ?_⟩
  · obtain ⟨s', t', h1, h2⟩ := vals_strAt (i := j) r (by omega)
    have e1 : its.toArray[j] = .str (S s') t' := by simpa using h2
    have e2 : s' = k := by
      rw [h1] at hjk
      exact Option.some.inj hjk
    rw [e1, e2]
    exact beq_self_eq_true _
  · intro m hm hmj
    obtain ⟨s', t', h1, h2⟩ := vals_strAt (i := m) r (by omega)
    have e1 : its.toArray[m] = .str (S s') t' := by simpa using h2
    rw [e1]
    refine beq_eq_false_iff_ne.mpr fun e2 => hno m hmj ?_
    rw [h1, S_inj e2]
  · have rr := r.eraseIdx j
    rw [map_eraseIdxS, he] at rr
    refine ⟨.non, _, I.lset (its' := its.eraseIdx j) (t' := s.toks) hH e ?_ rr ?_, rfl, q⟩
    · show its.toArray.eraseIdxIfInBounds j = (its.eraseIdx j).toArray
      rw [List.eraseIdxIfInBounds_toArray]
    · rw [List.length_map]
      have := List.length_erase_le (a := k) (l := ss)
      omega
theorem m_remS {a : Addr} {ss : List (List Nat)} {k : List Nat} (ha : M a = some (.lst (ss.map D.str))) (hk : k ∈ ss) (q : Q .non (upM M a (.lst ((ss.erase k).map D.str)))) : lM rRemF (.ref a) [.str k] M Q := fun u us H kk s ru rs p => by
  cases ru
  cases rs with
  | cons r1 r2 =>
    cases r2
    cases r1
    obtain ⟨vs, hv, hr⟩ := s.lst ha
    have e := hr.to_strs
    subst e
    exact ⟨a, ss, k, rfl, rfl, hv, hk, p _ _ _ _ q (s.set ha ⟨_, rfl, RpL.strs _⟩) (Stp.set ha) .non⟩

/-! ### str(..), int(..) -/
theorem S_of_str (s : Str) : ∃ l, s = S l := ⟨_, (S_tl s).symm⟩
/-- a whole number's figures -/
def figs (i : Int) : List Nat := TL.tl (Str.ofString (toString i))
def rStrA : List V → Hp → VK → Prop := fun xs H Q => (∃ i, xs = [.int i] ∧ i.natAbs.log2 < 1920 ∧ Q (.str (toString i)) H) ∨ ∃ a, xs = [.str a] ∧ Q (.str a) H
theorem cr_strA : CallR Y (.type "str") rStrA := by
  intro pins s σ H xs us Q I r h
  rcases h with h | h
  · exact call_str_int pins s σ H xs us Q I r h
  · exact SkE.call_str_str pins s σ H xs us Q I r h
theorem log2_small {i : Int} (h : i.natAbs < 2 ^ 64) : i.natAbs.log2 < 1920 := by
  by_cases e : i.natAbs = 0
  · rw [e]; decide
  · have := (Nat.log2_lt e).mpr h
    omega
theorem c_strI {i : Int} (h : i.natAbs < 2 ^ 64) (q : Q (.str (figs i)) M) : lC rStrA [.int i] M Q := fun us H k s r p => by
  cases r with
  | cons r1 r2 =>
    cases r2
    cases r1
    refine .inl ⟨i, rfl, log2_small h, p _ _ H M q s (Kn.refl _) ?_⟩
    have e := Rp.str (I := imm H M) (figs i)
    unfold figs at e
    rw [S_tl] at e
    exact e
theorem c_strS {a : List Nat} (q : Q (.str a) M) : lC rStrA [.str a] M Q := fun us H k s r p => by
  cases r with
  | cons r1 r2 =>
    cases r2
    cases r1
    exact .inr ⟨_, rfl, p _ _ H M q s (Kn.refl _) (.str a)⟩

/-! ### xs[::-1] -/
abbrev tRevA (K : PySem.W.Frag) (te : TE) : TE := tRevL K te
theorem l_revA {te : TE} (h : lE W te ρ M (fun x M1 => ∃ ds, isL M1 x ds ∧ Q (.lst ds.reverse) M1) X) : lE W (tRevA K te) ρ M Q X := fun σ H k s e p px =>
  h σ H _ s e (fun u x H1 M1 q1 s1 t1 r1 => by
    obtain ⟨ds, hx, q⟩ := q1
    obtain ⟨a, vs, rfl, ha, hr⟩ := isL_sq hx s1 r1
    refine ⟨a, vs, rfl, SqL.of ha, fun c hc => p _ _ _ M1 q (s1.new hc) (t1.trans (Stp.new hc)) (.lst (imm_new s1 hc) ?_)⟩
    have rev : ∀ {I : Hp} {vs : List V} {ds : List D}, RpL I vs ds → RpL I vs.reverse ds.reverse := by
      intro I vs ds r
      induction vs generalizing ds with
      | nil => cases r; exact .nil
      | cons v vs ih =>
        cases r with
        | cons r1 r2 =>
          rw [List.reverse_cons, List.reverse_cons]
          exact (ih r2).append (.cons r1 .nil)
    exact (rev hr).mono (Stp.new hc)) px
end
section
variable {X : Cx}
theorem pe_revA {e : Expr} {te : TE} {k : Nat} {p1 p2 p3 pos : Pos} (he : PE X e te) : PE X (.Subscript e (.Slice none none (some (.UnaryOp .USub (.Constant (.int 1) k p1) p2)) p3) pos) (tRevA X.K te) := pe_revL he
end
/-! ### what may be compared: told by its depth -/
def OkN : Nat → D → Prop
  | _, .non => True
  | _, .bl _ => True
  | _, .int _ => True
  | _, .str s => ∀ c ∈ s, c < 1114112
  | n + 1, .tup ds => ∀ d ∈ ds, OkN n d
  | n + 1, .lst ds => ∀ d ∈ ds, OkN n d
  | _, _ => False
theorem strOk_S {s : List Nat} (h : ∀ c ∈ s, c < 1114112) : PyData.strOk (S s) = true := by
  unfold PyData.strOk
  rw [Array.all_eq_true_iff_forall_mem]
  intro c hc
  have : c ∈ s := by simpa [SX.S] using hc
  exact decide_eq_true (h c this)
theorem OkN.all : ∀ {n : Nat} {d : D}, OkN n d → plain d = true ∧ (toPy d).canLay0 = true ∧ (toPy d).depth ≤ n
  | _, .non, _ => ⟨rfl, by rw [toPy, PyData.canLay0], by rw [toPy, PyData.depth]; omega⟩
  | _, .bl _, _ => ⟨rfl, by rw [toPy, PyData.canLay0], by rw [toPy, PyData.depth]; omega⟩
  | _, .int _, _ => ⟨rfl, by rw [toPy, PyData.canLay0], by rw [toPy, PyData.depth]; omega⟩
  | n, .str s, h => ⟨rfl, by
      rw [toPy, PyData.canLay0]
      cases n <;> exact strOk_S h, by rw [toPy, PyData.depth]; omega⟩
  | n + 1, .tup ds, h => by
    have hh : ∀ d ∈ ds, OkN n d := h
    have k : ∀ ds : List D, (∀ d ∈ ds, plain d = true ∧ (toPy d).canLay0 = true ∧ (toPy d).depth ≤ n) → plains ds = true ∧ PyData.canLayAll0 (toPys ds) = true ∧ PyData.depthAll (toPys ds) ≤ n := by
      intro ds
      induction ds with
      | nil => exact fun _ => ⟨rfl, rfl, by rw [toPys, PyData.depthAll]; omega⟩
      | cons d ds ih =>
        intro h
        obtain ⟨a, b, c⟩ := h d List.mem_cons_self
        obtain ⟨a', b', c'⟩ := ih fun d m => h d (List.mem_cons_of_mem _ m)
        refine ⟨by rw [plains, a, a']; rfl, by rw [toPys, PyData.canLayAll0, b, b']; rfl, ?_⟩
        rw [toPys, PyData.depthAll]
        omega
    obtain ⟨a, b, c⟩ := k ds fun d m => OkN.all (hh d m)
    exact ⟨by rw [plain]; exact a, by rw [toPy, PyData.canLay0]; exact b, by rw [toPy, PyData.depth]; omega⟩
  | n + 1, .lst ds, h => by
    have hh : ∀ d ∈ ds, OkN n d := h
    have k : ∀ ds : List D, (∀ d ∈ ds, plain d = true ∧ (toPy d).canLay0 = true ∧ (toPy d).depth ≤ n) → plains ds = true ∧ PyData.canLayAll0 (toPys ds) = true ∧ PyData.depthAll (toPys ds) ≤ n := by
      intro ds
      induction ds with
      | nil => exact fun _ => ⟨rfl, rfl, by rw [toPys, PyData.depthAll]; omega⟩
      | cons d ds ih =>
        intro h
        obtain ⟨a, b, c⟩ := h d List.mem_cons_self
        obtain ⟨a', b', c'⟩ := ih fun d m => h d (List.mem_cons_of_mem _ m)
        refine ⟨by rw [plains, a, a']; rfl, by rw [toPys, PyData.canLayAll0, b, b']; rfl, ?_⟩
        rw [toPys, PyData.depthAll]
        omega
    obtain ⟨a, b, c⟩ := k ds fun d m => OkN.all (hh d m)
    exact ⟨by rw [plain]; exact a, by rw [toPy, PyData.canLay0]; exact b, by rw [toPy, PyData.depth]; omega⟩
  | 0, .tup _, h => h.elim
  | 0, .lst _, h => h.elim
  | n, .ref _, h => by cases n <;> exact h.elim
  | n, .exc _, h => by cases n <;> exact h.elim
  | n, .ty _, h => by cases n <;> exact h.elim
  | n, .opq _, h => by cases n <;> exact h.elim
theorem OkN.ok {n : Nat} {d : D} (h : OkN n d) (hn : n ≤ 64 := by decide) : okD d = true := by
  obtain ⟨a, b, c⟩ := h.all
  unfold okD SeqAt.shaped
  rw [a, b, decide_eq_true (by omega : (toPy d).depth ≤ 64)]
  rfl
theorem OkN.lst {n : Nat} {ds : List D} (h : ∀ d ∈ ds, OkN n d) : OkN (n + 1) (.lst ds) := h
theorem OkN.tup {n : Nat} {ds : List D} (h : ∀ d ∈ ds, OkN n d) : OkN (n + 1) (.tup ds) := h
theorem OkN.str {n : Nat} {s : List Nat} (h : ∀ c ∈ s, c < 1114112) : OkN n (.str s) := by cases n <;> exact h
theorem OkN.int {n : Nat} {i : Int} : OkN n (.int i) := by cases n <;> exact trivial
theorem OkN.bl {n : Nat} {i : Bool} : OkN n (.bl i) := by cases n <;> exact trivial
theorem OkN.non {n : Nat} : OkN n .non := by cases n <;> exact trivial
theorem OkN.nil {n : Nat} : ∀ d ∈ ([] : List D), OkN n d := fun d m => absurd m (by simp)
theorem OkN.cons {n : Nat} {d : D} {ds : List D} (h : OkN n d) (t : ∀ d ∈ ds, OkN n d) : ∀ e ∈ d :: ds, OkN n e := fun e m => by
  rcases List.mem_cons.mp m with rfl | m
  · exact h
  · exact t e m
theorem OkN.map {α : Type} {n : Nat} {f : α → D} {xs : List α} (h : ∀ x ∈ xs, OkN n (f x)) : ∀ d ∈ xs.map f, OkN n d := fun d m => by
  obtain ⟨x, hx, rfl⟩ := List.mem_map.mp m
  exact h x hx
theorem OkN.strs {n : Nat} {ss : List (List Nat)} (h : ∀ s ∈ ss, ∀ c ∈ s, c < 1114112) : OkN (n + 1) (.lst (ss.map D.str)) := OkN.lst (OkN.map fun s m => OkN.str (h s m))

section
variable {W : WX} {X : XD} {ρ : En} {M : Mh} {Q : D → Mh → Prop} {A : DE} {K : PySem.W.Frag} {Y : Cx}
/-- a comprehension that changes nothing, to a list that may change -/
theorem l_lcM {wi : TI} {g : TG} {tt : TT} {te : TE} {vs : List Nat} (hw : WipG g vs) (h : lI W wi ρ M (fun ds C M1 => ∃ F : D → Option D, ds.length ≤ 100000 ∧ (∀ M', KnM M1 M' → C M') ∧
      (∀ d, d ∈ ds → ∀ M', KnM M1 M' → lG W0 g d (wipeD ρ vs) M' (fun ρ2 M2 => lT W0 tt ρ2 M2 (fun b M3 => (b = true → lE W0 te ρ2 M3 (fun y M4 => M4 = M' ∧ F d = some y) noX) ∧ (b = false → M3 = M' ∧ F d = none)) noX) noX) ∧
      ∀ a, M1 a = none → Q (.ref a) (upM M1 a (.lst (ds.filterMap F)))) X) : lE W (tLc wi g tt te vs) ρ M Q X := by
  refine l_lc hw ?_
  refine fun σ H k s e p px => h σ H k s e (fun J H' M' ds C q s' t' wk => ?_) px
  refine p J H' M' ds C (fun a ha => ?_) s' t' wk
  obtain ⟨F, hlen, hC, hF, hQ⟩ := q
  have kn : ∀ c, KnM M' (upM M' a c) := fun c b d hb => by
    have n : b ≠ a := fun z => by
      rw [z, ha] at hb
      cases hb
    rw [upM_ne n]
    exact hb
  have lenF : ∀ i, ((ds.take i).filterMap F).length ≤ 100000 := fun i => by
    have h1 := List.length_filterMap_le F (ds.take i)
    have h3 : (ds.take i).length ≤ ds.length := by rw [List.length_take]; omega
    omega
  refine ⟨fun i acc M2 => M2 = upM M' a (.lst acc) ∧ acc = (ds.take i).filterMap F, ⟨rfl, rfl⟩, ?_, ?_, ?_⟩
  · rintro i acc M2 ⟨rfl, rfl⟩
    exact ⟨hC _ (kn _), upM_same, lenF i⟩
  · rintro i acc M2 d hd ⟨rfl, e1⟩
    have et : ds.take (i + 1) = ds.take i ++ [d] := by rw [List.take_add_one, hd]; rfl
    refine fun v σ2 H2 k2 s2 e2 r2 p2 px2 => hF d (List.mem_of_getElem? hd) _ (kn _) v σ2 H2 k2 s2 e2 r2 (fun σ3 ρ3 H3 M3 q3 s3 t3 e3 => p2 _ _ _ _ ?_ s3 t3 e3) px2
    refine fun σ4 H4 k4 s4 e4 p4 px4 => q3 σ4 H4 k4 s4 e4 (fun b H5 M5 q5 s5 t5 => p4 _ _ _ ⟨fun hb => ?_, fun hb => ?_⟩ s5 t5) px4
    · refine fun σ6 H6 k6 s6 e6 p6 px6 => q5.1 hb σ6 H6 k6 s6 e6 (fun v7 y H7 M7 q7 s7 t7 r7 => p6 _ _ _ _ ?_ s7 t7 r7) px6
      obtain ⟨rfl, ef⟩ := q7
      refine ⟨upM_same, upM_upM, ?_⟩
      rw [et, List.filterMap_append, ← e1]
      simp [ef]
    · obtain ⟨rfl, ef⟩ := q5.2 hb
      refine ⟨rfl, ?_⟩
      rw [et, List.filterMap_append, ← e1]
      simp [ef]
  · rintro acc M2 ⟨rfl, e1⟩
    rw [List.take_length] at e1
    rw [e1]
    exact hQ a ha
end
theorem br_nt {A B : Prop} (h : A) : ((!false) = true → A) ∧ ((!false) = false → B) := ⟨fun _ => h, (fun z => nomatch z)⟩
theorem br_nf {A B : Prop} (h : B) : ((!true) = true → A) ∧ ((!true) = false → B) := ⟨(fun z => nomatch z), fun _ => h⟩
theorem br_nt' {b : Bool} {A B : Prop} (h : A) (e : b = true := by rfl) : (b = true → A) ∧ (b = false → B) := ⟨fun _ => h, fun z => absurd (e.symm.trans z) (by decide)⟩
theorem br_nf' {b : Bool} {A B : Prop} (h : B) (e : b = false := by rfl) : (b = true → A) ∧ (b = false → B) := ⟨fun z => absurd (e.symm.trans z) (by decide), fun _ => h⟩
/-! ### max of a list of like things -/
section
variable {W : WX} {X : XD} {ρ : En} {M : Mh} {Q : D → Mh → Prop} {A : DE} {K : PySem.W.Frag} {Y : Cx}
def rMaxA (K : PySem.W.Frag) : List V → Hp → VK → Prop := fun xs H Q => ∃ (p : Addr) (z0 : V × PyData) (zs : List (V × PyData)), xs = [.ref p] ∧ SqL K H p ((z0 :: zs).map (·.1)) ∧ (∀ z, z ∈ z0 :: zs → Dp K H z.1 z.2) ∧ PySem.W.AlikeAll ((z0 :: zs).map (·.2)) ∧
  PyData.depthAll ((z0 :: zs).map (·.2)) ≤ 60 ∧ ∀ z, z ∈ z0 :: zs → z.2 = PySem.W.maxD z0.2 (zs.map (·.2)) → Q z.1 H
theorem dpAll_zs {H : Hp} : ∀ {zs : List (V × PyData)}, (∀ z, z ∈ zs → Dp K H z.1 z.2) → DpAll K H (zs.map (·.1)) (zs.map (·.2))
  | [], _ => .nil
  | z :: zs, h => .cons (h z List.mem_cons_self) (dpAll_zs fun z m => h z (List.mem_cons_of_mem _ m))
theorem cr_maxA (hu : Y.A.units + 64 < cLine) (hc : Y.calm = true) : CallR Y (.builtin "max") (rMaxA Y.K) := by
  intro pins s σ H vs us Q I r h
  obtain ⟨p, z0, zs, rfl, hs, hd, ha, hb, q⟩ := h
  obtain ⟨its, rv, hl, hz⟩ := I.list hs
  obtain ⟨u, rfl, ru⟩ := vals1 r
  obtain rfl : u = Value.ref p := ru
  obtain ⟨as, rr⟩ := Dp.readsAll I _ _ _ (dpAll_zs hd) rv
  have hl' : s.heap.IsList p its.toArray := hl.isList
  refine PySem.W.max_list_data (I.ok.hd hc) hl' (x := z0.2) (xs := zs.map fun z : V × PyData => z.2) (as := as) rr ha (by
    have e : PyData.depthAll (z0.2 :: zs.map (·.2)) ≤ 60 := hb
    omega) fun i v h' tk bs hv hr hk => ?_
  have hv' : its[i]? = some v := by rw [← hv]; simp
  obtain ⟨z, hzi, rz⟩ : ∃ z, (z0 :: zs)[i]? = some z ∧ RelV z.1 v := by
    have hlen := rv.length
    rw [List.length_map] at hlen
    have hi : i < (z0 :: zs).length := by
      have := (List.getElem?_eq_some_iff.mp hv').1
      omega
    obtain ⟨w, hw, rw'⟩ := rv.get (i := i) (x := ((z0 :: zs)[i]).1) (by rw [List.getElem?_map, List.getElem?_eq_getElem hi]; rfl)
    refine ⟨_, List.getElem?_eq_getElem hi, ?_⟩
    rw [hv'] at hw
    rw [Option.some.inj hw]
    exact rw'
  have hm := List.mem_of_getElem? hzi
  have I' := I.kept (t' := tk) hk
  refine ⟨z.1, H, I', rz, q z hm ?_⟩
  obtain ⟨as', r1⟩ := Dp.reads I' _ _ _ (hd z hm) rz
  have mem : PySem.W.maxD z0.2 (zs.map (·.2)) ∈ (z0 :: zs).map (·.2) := by
    have : ∀ (x : PyData) (xs : List PyData), PySem.W.maxD x xs ∈ x :: xs := by
      intro x xs
      unfold PySem.W.maxD
      induction xs generalizing x with
      | nil => exact List.mem_cons_self
      | cons y ys ih =>
        rw [List.foldl_cons]
        have h1 := ih (if PySem.W.dataLt x y then y else x)
        rcases List.mem_cons.mp h1 with h2 | h2
        · rw [h2]
          split
          · exact List.mem_cons_of_mem _ List.mem_cons_self
          · exact List.mem_cons_self
        · exact List.mem_cons_of_mem _ (List.mem_cons_of_mem _ h2)
    exact this _ _
  exact PySem.W.alike_unique _ _ _ _ _ (ha.1 _ (List.mem_map.mpr ⟨z, hm, rfl⟩) _ mem) r1 hr
/-- ready for max -/
structure MaxOk (ds : List D) : Prop where
  pl : plains ds = true
  al : PySem.W.AlikeAll (ds.map toPy)
  dp : PyData.depthAll (ds.map toPy) ≤ 60
theorem c_maxA {x d : D} {ds : List D} (hx : isL M x (d :: ds)) (ok : MaxOk (d :: ds)) (q : ∀ e ∈ d :: ds, toPy e = PySem.W.maxD (toPy d) (ds.map toPy) → Q e M) : lC (rMaxA K) [x] M Q := fun us H k s r p => by
  cases r with
  | cons r1 r2 =>
    cases r2
    obtain ⟨a, vs, rfl, ha, hr⟩ := isL_sq hx s r1
    cases hr with
    | cons h0 hs =>
      rename_i v0 vs
      obtain ⟨e1, e2, e3⟩ := rpl_zip hs
      have es : ∀ z : V × PyData, z ∈ ((vs.zip ds).map fun z => (z.1, toPy z.2)) → ∃ y, y ∈ vs.zip ds ∧ z = (y.1, toPy y.2) := fun z m => by
        obtain ⟨y, my, rfl⟩ := List.mem_map.mp m
        exact ⟨y, my, rfl⟩
      have emem : ∀ z : V × D, z ∈ vs.zip ds → z.2 ∈ ds := fun z m => by rw [← e2]; exact List.mem_map.mpr ⟨z, m, rfl⟩
      have m1 : ((vs.zip ds).map fun z => (z.1, toPy z.2)).map (·.1) = vs := by
        rw [List.map_map]
        exact e1
      have m2 : ((vs.zip ds).map fun z => (z.1, toPy z.2)).map (·.2) = ds.map toPy := by
        rw [List.map_map]
        conv => rhs; rw [← e2, List.map_map]
        rfl
      refine ⟨a, (v0, toPy d), (vs.zip ds).map fun z => (z.1, toPy z.2), rfl, ?_, ?_, ?_, ?_, ?_⟩
      · rw [List.map_cons, m1]
        exact SqL.of ha
      · intro z m
        rcases List.mem_cons.mp m with rfl | m
        · exact h0.dp (plains_mem ok.pl List.mem_cons_self)
        · obtain ⟨y, my, rfl⟩ := es z m
          exact (e3 y my).dp (plains_mem ok.pl (List.mem_cons_of_mem _ (emem y my)))
      · rw [List.map_cons, m2]
        exact ok.al
      · rw [List.map_cons, m2]
        exact ok.dp
      · intro z m e
        rw [m2] at e
        rcases List.mem_cons.mp m with rfl | m
        · exact p _ _ H M (q d List.mem_cons_self e) s (Kn.refl _) h0
        · obtain ⟨y, my, rfl⟩ := es z m
          exact p _ _ H M (q y.2 (List.mem_cons_of_mem _ (emem y my)) e) s (Kn.refl _) (e3 y my)
/-- nothing is greater than max -/
theorem maxD_top (x : PyData) (xs : List PyData) : PySem.W.maxD x xs ∈ x :: xs ∧ ∀ y ∈ x :: xs, PySem.W.dataLt (PySem.W.maxD x xs) y = false := by
  unfold PySem.W.maxD
  have irr : ∀ a, PySem.W.dataLt a a = false := fun a => (listOrd itemOrd).irrefl _
  have neg : ∀ a b c, PySem.W.dataLt a c = true → PySem.W.dataLt a b = true ∨ PySem.W.dataLt b c = true := fun a b c h => (listOrd itemOrd).negTrans _ _ _ h
  induction xs generalizing x with
  | nil => exact ⟨List.mem_cons_self, fun y hy => by rw [List.mem_singleton.mp hy]; exact irr _⟩
  | cons z zs ih =>
    rw [List.foldl_cons]
    by_cases h : PySem.W.dataLt x z = true
    · rw [if_pos h]
      obtain ⟨h1, h2⟩ := ih z
      refine ⟨List.mem_cons_of_mem _ h1, fun y hy => ?_⟩
      rcases List.mem_cons.mp hy with rfl | hy
      · have hz := h2 z List.mem_cons_self
        cases e : PySem.W.dataLt (List.foldl (fun a y => if PySem.W.dataLt a y = true then y else a) z zs) y with
        | false => rfl
        | true =>
          have tr := (listOrd itemOrd).trans _ _ _ e h
          have tr' : PySem.W.dataLt (List.foldl (fun a y => if PySem.W.dataLt a y = true then y else a) z zs) z = true := tr
          rw [hz] at tr'
          cases tr'
      · exact h2 y hy
    · rw [if_neg h]
      obtain ⟨h1, h2⟩ := ih x
      refine ⟨?_, fun y hy => ?_⟩
      · rcases List.mem_cons.mp h1 with h3 | h3
        · rw [h3]
          exact List.mem_cons_self
        · exact List.mem_cons_of_mem _ (List.mem_cons_of_mem _ h3)
      · rcases List.mem_cons.mp hy with rfl | hy
        · exact h2 y List.mem_cons_self
        rcases List.mem_cons.mp hy with rfl | hy
        · cases e : PySem.W.dataLt (List.foldl (fun a y => if PySem.W.dataLt a y = true then y else a) x zs) y with
          | false => rfl
          | true =>
            rcases neg _ x _ e with h3 | h3
            · have := h2 x List.mem_cons_self
              rw [this] at h3
              cases h3
            · exact absurd h3 h
        · exact h2 y (List.mem_cons_of_mem _ hy)
/-! ### list.pop(i) -/
theorem m_popAt {a : Addr} {ds : List D} {i : Nat} {d : D} (ha : M a = some (.lst ds)) (hd : ds[i]? = some d) (hi : i < 100000) (q : Q d (upM M a (.lst (ds.eraseIdx i)))) : lM rPopAt (.ref a) [.int (i : Int)] M Q := fun u us H k s ru rs p => by
  cases ru
  cases rs with
  | cons r1 r2 =>
    cases r2
    cases r1
    obtain ⟨vs, hv, hr⟩ := s.lst ha
    obtain ⟨v, hvi, rv⟩ := hr.getD hd
    have hlt := (List.getElem?_eq_some_iff.mp hvi).1
    have er : ∀ {I : Hp} {vs : List V} {ds : List D} (j : Nat), RpL I vs ds → RpL I (vs.eraseIdx j) (ds.eraseIdx j) := by
      intro I vs ds j r
      induction vs generalizing ds j with
      | nil => cases r; exact .nil
      | cons v vs ih =>
        cases r with
        | cons r1 r2 =>
          cases j with
          | zero => exact r2
          | succ j => exact .cons r1 (ih j r2)
    refine ⟨a, vs, (i : Int), i, v, rfl, rfl, hv, by omega, by omega, ?_, hvi, p _ _ _ _ q (s.set ha ⟨_, rfl, er i hr⟩) (Stp.set ha) ?_⟩
    · unfold PySem.seqIndex?
      simp
      omega
    · exact rv.mono (Stp.set ha)
end
/-! ### dicts that may change -/
def keyD : Key → D
  | .inl i => .int i
  | .inr s => .str (TL.tl s)
theorem keyD_rp {I : Hp} (k : Key) : Rp I (kV k) (keyD k) := by
  cases k with
  | inl i => exact .int i
  | inr s =>
    have h := Rp.str (I := I) (TL.tl s)
    rw [S_tl] at h
    exact h
theorem keyD_of {I : Hp} {v : V} {k : Key} (r : Rp I v (keyD k)) : v = kV k := by
  cases k with
  | inl i => cases r; rfl
  | inr s =>
    cases r
    show V.str (S (TL.tl s)) = V.str s
    rw [S_tl]
def valD (kvs : List (Key × D)) (k : Key) : Option D := (kvs.find? fun kv => decide (kv.1 = k)).map (·.2)
def putD (kvs : List (Key × D)) (k : Key) (v : D) : List (Key × D) :=
  if (kvs.any fun kv => decide (kv.1 = k)) = true then kvs.map (fun kv => if kv.1 = k then (kv.1, v) else kv) else kvs ++ [(k, v)]
def dropD (kvs : List (Key × D)) (k : Key) : List (Key × D) := kvs.filter fun kv => decide (kv.1 ≠ k)
theorem RpF.val {I : Hp} {k : Key} : ∀ {vs : List (Key × V)} {ds : List (Key × D)}, RpF I vs ds → (∀ d, valD ds k = some d → ∃ v, valV vs k = some v ∧ Rp I v d) ∧ (valD ds k = none → valV vs k = none)
  | _, _, .nil => ⟨fun d h => (by cases h), fun _ => rfl⟩
  | _, _, .cons (a := p) (b := q) (l₁ := vs) (l₂ := ds) h t => by
    obtain ⟨h1, h2⟩ := RpF.val (k := k) t
    obtain ⟨e, r⟩ := h
    by_cases z : q.1 = k
    · have e1 : valD (q :: ds) k = some q.2 := by simp [valD, List.find?_cons, z]
      have e2 : valV (p :: vs) k = some p.2 := valV_pos (e.trans z)
      refine ⟨fun d hd => ⟨p.2, e2, ?_⟩, fun hn => ?_⟩
      · rw [e1] at hd
        cases hd
        exact r
      · rw [e1] at hn
        cases hn
    · have e1 : valD (q :: ds) k = valD ds k := by simp [valD, List.find?_cons, z]
      have e2 : valV (p :: vs) k = valV vs k := valV_neg (fun w => z (e.symm.trans w))
      rw [e1, e2]
      exact ⟨h1, h2⟩
theorem RpF.isS {I : Hp} {k : Key} {vs : List (Key × V)} {ds : List (Key × D)} (h : RpF I vs ds) : (valV vs k).isSome = (valD ds k).isSome := by
  obtain ⟨h1, h2⟩ := h.val (k := k)
  cases z : valD ds k with
  | none =>
    rw [h2 z]
    rfl
  | some d =>
    obtain ⟨w, hw, _⟩ := h1 d z
    rw [hw]
    rfl
theorem RpF.any {I : Hp} {k : Key} : ∀ {vs : List (Key × V)} {ds : List (Key × D)}, RpF I vs ds → (vs.any fun kv => decide (kv.1 = k)) = ds.any fun kv => decide (kv.1 = k)
  | _, _, .nil => rfl
  | _, _, .cons h t => by
    rw [List.any_cons, List.any_cons, RpF.any t, h.1]
theorem RpF.mapIf {I : Hp} {k : Key} {v : V} {d : D} (r : Rp I v d) : ∀ {vs : List (Key × V)} {ds : List (Key × D)}, RpF I vs ds → RpF I (vs.map fun kv => if kv.1 = k then (kv.1, v) else kv) (ds.map fun kv => if kv.1 = k then (kv.1, d) else kv)
  | _, _, .nil => .nil
  | _, _, .cons (a := p) (b := q) h t => by
    refine .cons ?_ (RpF.mapIf r t)
    obtain ⟨e, h⟩ := h
    show (if p.1 = k then (p.1, v) else p).1 = (if q.1 = k then (q.1, d) else q).1 ∧ Rp I (if p.1 = k then (p.1, v) else p).2 (if q.1 = k then (q.1, d) else q).2
    by_cases z : q.1 = k
    · rw [if_pos (e.trans z), if_pos z]
      exact ⟨e, r⟩
    · rw [if_neg (fun w => z (e.symm.trans w)), if_neg z]
      exact ⟨e, h⟩
theorem RpF.snoc {I : Hp} {k : Key} {v : V} {d : D} (r : Rp I v d) : ∀ {vs : List (Key × V)} {ds : List (Key × D)}, RpF I vs ds → RpF I (vs ++ [(k, v)]) (ds ++ [(k, d)])
  | _, _, .nil => .cons ⟨rfl, r⟩ .nil
  | _, _, .cons h t => .cons h (RpF.snoc r t)
theorem RpF.put {I : Hp} {k : Key} {v : V} {d : D} (r : Rp I v d) {vs : List (Key × V)} {ds : List (Key × D)} (h : RpF I vs ds) : RpF I (L2.putK vs k v) (putD ds k d) := by
  unfold L2.putK putD
  rw [h.any]
  split
  · exact h.mapIf r
  · exact h.snoc r
theorem RpF.drop {I : Hp} {k : Key} : ∀ {vs : List (Key × V)} {ds : List (Key × D)}, RpF I vs ds → RpF I (dropK vs k) (dropD ds k)
  | _, _, .nil => .nil
  | _, _, .cons (a := p) (b := q) h t => by
    have ih := RpF.drop (k := k) t
    unfold dropK dropD at ih ⊢
    rw [List.filter_cons, List.filter_cons]
    by_cases z : q.1 = k
    · rw [if_neg (by simp [h.1, z]), if_neg (by simp [z])]
      exact ih
    · rw [if_pos (by simp [h.1, z]), if_pos (by simp [z])]
      exact .cons h ih
theorem RpF.keysL {I : Hp} : ∀ {vs : List (Key × V)} {ds : List (Key × D)}, RpF I vs ds → RpL I (vs.map fun kv => kV kv.1) (ds.map fun kv => keyD kv.1)
  | _, _, .nil => .nil
  | _, _, .cons (a := p) (b := q) h t => by
    refine .cons ?_ (RpF.keysL t)
    show Rp I (kV p.1) (keyD q.1)
    rw [h.1]
    exact keyD_rp q.1
section
variable {W : WX} {X : XD} {ρ : En} {M : Mh} {Q : D → Mh → Prop} {A : DE} {K : PySem.W.Frag} {Y : Cx}
theorem l_dnewK (h : ∀ a, M a = none → Q (.ref a) (upM M a (.dic []))) : lE W tDNewK ρ M Q X := fun σ H k s e p px => fun a ha => p _ _ _ _ (h a (s.fresh ha)) (s.newC ha ⟨[], rfl, .nil⟩) (Stp.newC ha) (.ref a)
theorem l_dget {td ty : TE} (h : lE W td ρ M (fun x M1 => lE W ty ρ M1 (fun y M2 => ∃ a kvs k d, x = .ref a ∧ M2 a = some (.dic kvs) ∧ y = keyD k ∧ valD kvs k = some d ∧ Q d M2) X) X) : lE W (tDGet td ty) ρ M Q X := fun σ H k s e p px =>
  h σ H _ s e (fun u x H1 M1 q1 s1 t1 r1 => q1 σ H1 _ s1 (e.mono t1) (fun v y H2 M2 q2 s2 t2 r2 => by
    obtain ⟨a, kvs, kk, d, rfl, hm, rfl, hv, q⟩ := q2
    cases r1
    obtain ⟨vs, ha, hr⟩ := s2.dic hm
    obtain ⟨w, hw, rw'⟩ := (hr.val (k := kk)).1 d hv
    exact ⟨a, w, rfl, .inl ⟨vs, kk, .inl ha, keyD_of r2, hw.symm⟩, p _ _ H2 M2 q s2 (t1.trans t2) rw'⟩) (px.mono t1)) px
theorem l_din {td ty : TE} (h : lE W ty ρ M (fun y M1 => lE W td ρ M1 (fun x M2 => ∃ a kvs k, x = .ref a ∧ M2 a = some (.dic kvs) ∧ y = keyD k ∧ Q (.bl (valD kvs k).isSome) M2) X) X) : lE W (tDIn ty td) ρ M Q X := fun σ H k s e p px =>
  h σ H _ s e (fun v y H1 M1 q1 s1 t1 r1 => q1 σ H1 _ s1 (e.mono t1) (fun u x H2 M2 q2 s2 t2 r2 => by
    obtain ⟨a, kvs, kk, rfl, hm, rfl, q⟩ := q2
    cases r2
    obtain ⟨vs, ha, hr⟩ := s2.dic hm
    have ev : (valV vs kk).isSome = (valD kvs kk).isSome := hr.isS
    refine ⟨a, valV vs kk, rfl, .inl ⟨vs, kk, .inl ha, keyD_of r1, rfl⟩, ?_⟩
    rw [ev]
    exact p _ _ H2 M2 q s2 (t1.trans t2) (.bl _)) (px.mono t1)) px
theorem l_dnin {td ty : TE} (h : lE W ty ρ M (fun y M1 => lE W td ρ M1 (fun x M2 => ∃ a kvs k, x = .ref a ∧ M2 a = some (.dic kvs) ∧ y = keyD k ∧ Q (.bl (!(valD kvs k).isSome)) M2) X) X) : lE W (tDNotIn ty td) ρ M Q X := fun σ H k s e p px =>
  h σ H _ s e (fun v y H1 M1 q1 s1 t1 r1 => q1 σ H1 _ s1 (e.mono t1) (fun u x H2 M2 q2 s2 t2 r2 => by
    obtain ⟨a, kvs, kk, rfl, hm, rfl, q⟩ := q2
    cases r2
    obtain ⟨vs, ha, hr⟩ := s2.dic hm
    have ev : (valV vs kk).isSome = (valD kvs kk).isSome := hr.isS
    refine ⟨a, valV vs kk, rfl, .inl ⟨vs, kk, .inl ha, keyD_of r1, rfl⟩, ?_⟩
    rw [ev]
    exact p _ _ H2 M2 q s2 (t1.trans t2) (.bl _)) (px.mono t1)) px
abbrev tDPut (td ty tv : TE) : TS := sDPut td ty tv
theorem s_dput {td ty tv : TE} (h : lE W tv ρ M (fun d M1 => lE W td ρ M1 (fun x M2 => lE W ty ρ M2 (fun y M3 => ∃ a kvs k, x = .ref a ∧ M3 a = some (.dic kvs) ∧ y = keyD k ∧ kvs.length < 100000 ∧ A.nx ρ (upM M3 a (.dic (putD kvs k d)))) X) X) X) : lS W (tDPut td ty tv) ρ M A X := fun σ H D s e p px =>
  h σ H _ s e (fun w d H1 M1 q1 s1 t1 r1 => q1 σ H1 _ s1 (e.mono t1) (fun u x H2 M2 q2 s2 t2 r2 => q2 σ H2 _ s2 (e.mono (t1.trans t2)) (fun v y H3 M3 q3 s3 t3 r3 => by
    obtain ⟨a, kvs, kk, rfl, hm, rfl, hl, q⟩ := q3
    cases r2
    obtain ⟨vs, ha, hr⟩ := s3.dic hm
    have hl' : vs.length < sizeLine := by
      rw [hr.length]
      exact line_lt (by omega)
    have T := (t1.trans t2).trans t3
    refine ⟨a, upd H3 a (.dK (L2.putK vs kk w)), rfl, ?_, p.nx _ _ _ _ q (s3.set hm ⟨_, rfl, hr.put (r1.mono (t2.trans t3))⟩) (T.trans (Stp.set hm)) (e.mono (T.trans (Stp.set hm)))⟩
    rw [keyD_of r3]
    exact DPut.k ha hl') (px.mono (t1.trans t2))) (px.mono t1)) px
theorem isD_of {H : Hp} {a : Addr} {vs : List (Key × V)} (h : H a = some (.dK vs)) : IsD H a := .inl ⟨vs, .inl h⟩
theorem l_dpop1 {td ty : TE} (h : lE W td ρ M (fun x M1 => ∃ a kvs0, x = .ref a ∧ M1 a = some (.dic kvs0) ∧ lE W ty ρ M1 (fun y M2 => ∃ kvs k d, M2 a = some (.dic kvs) ∧ y = keyD k ∧ valD kvs k = some d ∧ Q d (upM M2 a (.dic (dropD kvs k)))) X) X) : lE W (tDPop1 td ty) ρ M Q X := fun σ H k s e p px =>
  h σ H _ s e (fun u x H1 M1 q1 s1 t1 r1 => by
    obtain ⟨a, kvs0, rfl, hm0, q1⟩ := q1
    cases r1
    obtain ⟨vs0, ha0, _⟩ := s1.dic hm0
    refine ⟨a, rfl, isD_of ha0, q1 σ H1 _ s1 (e.mono t1) (fun v y H2 M2 q2 s2 t2 r2 => ?_) (px.mono t1)⟩
    obtain ⟨kvs, kk, d, hm, rfl, hv, q⟩ := q2
    obtain ⟨vs, ha, hr⟩ := s2.dic hm
    obtain ⟨w, hw, rw'⟩ := (hr.val (k := kk)).1 d hv
    exact ⟨vs, kk, w, ha, keyD_of r2, hw, p _ _ _ _ q (s2.set hm ⟨_, rfl, hr.drop⟩) ((t1.trans t2).trans (Stp.set hm)) (rw'.mono (Stp.set hm))⟩) px
theorem l_dpop2 {td ty tx : TE} (h : lE W td ρ M (fun x M1 => ∃ a kvs0, x = .ref a ∧ M1 a = some (.dic kvs0) ∧ lE W ty ρ M1 (fun y M2 => lE W tx ρ M2 (fun z M3 => ∃ kvs k, M3 a = some (.dic kvs) ∧ y = keyD k ∧ (∀ d, valD kvs k = some d → Q d (upM M3 a (.dic (dropD kvs k)))) ∧ (valD kvs k = none → Q z M3)) X) X) X) : lE W (tDPop2 td ty tx) ρ M Q X := fun σ H k s e p px =>
  h σ H _ s e (fun u x H1 M1 q1 s1 t1 r1 => by
    obtain ⟨a, kvs0, rfl, hm0, q1⟩ := q1
    cases r1
    obtain ⟨vs0, ha0, _⟩ := s1.dic hm0
    refine ⟨a, rfl, isD_of ha0, q1 σ H1 _ s1 (e.mono t1) (fun v y H2 M2 q2 s2 t2 r2 => q2 σ H2 _ s2 (e.mono (t1.trans t2)) (fun z zd H3 M3 q3 s3 t3 r3 => ?_) (px.mono (t1.trans t2))) (px.mono t1)⟩
    obtain ⟨kvs, kk, hm, rfl, qy, qn⟩ := q3
    obtain ⟨vs, ha, hr⟩ := s3.dic hm
    have T := (t1.trans t2).trans t3
    refine ⟨vs, kk, ha, keyD_of r2, fun w hw => ?_, fun hw => ?_⟩
    · cases hv : valD kvs kk with
      | none =>
        rw [(hr.val (k := kk)).2 hv] at hw
        cases hw
      | some d =>
        obtain ⟨w', hw', rw'⟩ := (hr.val (k := kk)).1 d hv
        rw [hw] at hw'
        obtain rfl := Option.some.inj hw'
        exact p _ _ _ _ (qy d hv) (s3.set hm ⟨_, rfl, hr.drop⟩) (T.trans (Stp.set hm)) (rw'.mono (Stp.set hm))
    · cases hv : valD kvs kk with
      | none => exact p _ _ H3 M3 (qn hv) s3 T r3
      | some d =>
        obtain ⟨w', hw', _⟩ := (hr.val (k := kk)).1 d hv
        rw [hw] at hw'
        cases hw') px
end
/-! ### d.keys(), its list, its sorted list -/
def KeysV (v a : Addr) : HO := .ext fun hp => PySem.W.KdlKeysView hp v a
def tKeysA (td : TE) : TE := fun σ H Q => td σ H fun x H1 => ∃ a kvs, x = .ref a ∧ H1 a = some (.dK kvs) ∧ ∀ v, H1 v = none → Q (.ref v) (upd H1 v (KeysV v a))
section
variable {Y : Cx}
theorem pe_keysA {e : Expr} {td : TE} {apos cpos : Pos} (pe : PE Y e td) (hb : attributeBase e "keys" Y.env (eval e Y.env) = eval e Y.env := by rfl) (hl : (apos.endLine == cpos.line) = true := by rfl) : PE Y (.Call (.Attribute e "keys" apos) [] [] cpos) (tKeysA td) := by
  constructor
  intro pins s σ H Q I h
  refine wpAny_Call_method (T := "dict") (id := "dict.keys") hb rfl hl PySem.F.plainAttrs_dict PySem.F.slot_dict_keys PySem.F.type_dict_keys (thn (pe.run pins s σ H _ I h) fun u s1 ⟨x, H1, I1, rx, a, kvs, ex, hd, q⟩ => ?_)
  subst ex
  obtain rfl : u = Value.ref a := rx
  obtain ⟨_, lo, vs, rel, dd⟩ := dk_of I1.hok hd
  refine ⟨dd.typeIs, dd.mapOf.noDict, ?_⟩
  have hn : H1 s1.heap.objs.size = none := I1.hok.fresh (Nat.le_refl _)
  have vw : PySem.W.KdlKeysView (s1.heap.push { cls := .type "dict_keys", data := .fields #[.ref a] }) s1.heap.objs.size a := ⟨_, Heap.get?_push_size _ rfl, rfl, rfl⟩
  have I2 : Inv Y pins σ (upd H1 s1.heap.objs.size (KeysV s1.heap.objs.size a)) { s1 with heap := s1.heap.push { cls := .type "dict_keys", data := .fields #[.ref a] } } :=
    I1.laid (t' := s1.toks) (fun b ob hq => Heap.get?_push_of_some _ hq) (Nat.le_refl _) ⟨vw, ⟨_, Heap.get?_push_size _ rfl⟩, fun h1 h2 ⟨o, ho, hc⟩ k => ⟨o, k o ho, hc⟩⟩
  have fin : EP Y pins σ Q (.ref s1.heap.objs.size) { s1 with heap := s1.heap.push { cls := .type "dict_keys", data := .fields #[.ref a] } } := ⟨.ref _, _, I2, rfl, q _ hn⟩
  show wpAny _ _ (callWith cpos (.builtin "dict.keys") [.ref a] [] []) _ Y.xe s1
  exact method_meetsIn PySem.F.slot_dict_keys PySem.F.entry_dict_keys rfl (PySem.evalArgs_none ⟨rfl, dd.typeIs, PySem.F.args_dict_keys_1 _, _, PySem.W.kdl_meets_keys (mixKind Y.prog Y.w) a lo, ⟨vs, dd⟩, fin⟩)
def rListK : List V → Hp → VK → Prop := fun xs H Q => ∃ (v a : Addr) (kvs : List (Key × V)), xs = [.ref v] ∧ H v = some (KeysV v a) ∧ H a = some (.dK kvs) ∧ ∀ l, H l = none → Q (.ref l) (upd H l (.lst (kvs.map fun kv => kV kv.1)))
theorem keys_vals {prog : Program} {w : World} {kvs : List (Key × V)} {vs : List (Key × Value)} (r : KV kvs vs) : ∀ {us : List Value}, us.length = vs.length → (∀ (j : Nat) (u : Value), us[j]? = some u → ∃ k x, vs[j]? = some (k, x) ∧ (mixKind prog w).is k u = true) → Vals (kvs.map fun kv => kV kv.1) us := by
  induction r with
  | nil =>
    intro us hl _
    obtain rfl := List.length_eq_zero_iff.mp hl
    exact .nil
  | cons h t ih =>
    intro us hl hv
    cases us with
    | nil => cases hl
    | cons u us =>
      refine .cons ?_ (ih (by simpa using hl) fun j u' hj => by simpa using hv (j + 1) u' (by simpa using hj))
      obtain ⟨k, x, e, hk⟩ := hv 0 u rfl
      simp only [List.getElem?_cons_zero, Option.some.injEq] at e
      have e1 := h.1
      rw [e] at e1
      show RelV (kV _) u
      rw [e1]
      exact relV_key (show keyIs k u = true from hk)
theorem cr_listK (hc : Y.calm = true) : CallR Y (.type "list") rListK := by
  intro pins s σ H xs us Q I r h
  obtain ⟨v, a, kvs, rfl, hv, ha, q⟩ := h
  obtain ⟨u, rfl, ru⟩ := vals1 r
  obtain rfl : u = Value.ref v := ru
  obtain ⟨hz, lo, vs, rel, dd⟩ := dk_of I.hok ha
  obtain ⟨vw, _, _⟩ := I.hok v _ hv
  obtain ⟨ep, hat⟩ := dd.dictAt
  have hlen : kvs.length = vs.length := Paired.length rel
  refine PySem.W.kdl_call (PySem.W.kdl_keys (knd := mixKind Y.prog Y.w) (kvs := vs) (ep := ep)) (I.ok.hd hc) ⟨vw, hat⟩ (by rw [← hlen]; exact hz) fun h' tk acc c kp hD hacc => ?_
  have hvv := keys_vals (prog := Y.prog) (w := Y.w) rel (us := acc.toList) (by rw [Array.length_toList]; exact hacc.1) fun j u hj => hacc.2 j u (by rw [← Array.getElem?_toList]; exact hj)
  refine ⟨.ref _, upd H s.heap.objs.size (.lst (kvs.map fun kv => kV kv.1)), I.laid (t' := tk) kp (Nat.le_refl _) ⟨by rw [List.length_map]; exact hz, acc.toList, c, hvv, ?_⟩, rfl, q _ (I.hok.fresh (Nat.le_refl _))⟩
  rw [Array.toArray_toList]
  exact hD
def rSortK : List V → Hp → VK → Prop := fun xs H Q => ∃ (v a : Addr) (kvs : List (Key × V)) (ks : List Int), xs = [.ref v] ∧ H v = some (KeysV v a) ∧ H a = some (.dK kvs) ∧ kvs.map (fun kv => kV kv.1) = ks.map V.int ∧ ∀ l, H l = none → Q (.ref l) (upd H l (.lst ((ks.mergeSort (PySem.W.dataLe false PyData.int)).map V.int)))
theorem each_ints : ∀ {ks : List Int} {us : List Value}, Vals (ks.map V.int) us → PySem.W.EachIs (fun u k => RelV (.int k) u) us ks
  | [], _, r => by
    cases r
    exact .nil
  | k :: ks, _, r => by
    cases r with
    | cons r1 r2 => exact .cons r1 (each_ints r2)
theorem ints_each : ∀ {ks : List Int} {us : List Value}, PySem.W.EachIs (fun u (k : Int) => RelV (.int k) u) us ks → Vals (ks.map V.int) us
  | _, _, .nil => .nil
  | _, _, .cons r t => .cons r (ints_each t)
theorem cr_sortK (hu : Y.A.units + 64 < cLine) (hc : Y.calm = true) : CallR Y (.builtin "sorted") rSortK := by
  intro pins s σ H xs us Q I r h
  obtain ⟨v, a, kvs, ks, rfl, hv, ha, hks, q⟩ := h
  obtain ⟨u, rfl, ru⟩ := vals1 r
  obtain rfl : u = Value.ref v := ru
  obtain ⟨hz, lo, vs, rel, dd⟩ := dk_of I.hok ha
  obtain ⟨vw, _, _⟩ := I.hok v _ hv
  obtain ⟨ep, hat⟩ := dd.dictAt
  have hlen : kvs.length = vs.length := Paired.length rel
  have hlk : ks.length = kvs.length := by
    have := congrArg List.length hks
    rw [List.length_map, List.length_map] at this
    exact this.symm
  refine Calls.call_function_entry kind_sorted plain_sorted entry_sorted (args_sorted1 _) ?_
  show wpAny _ _ (Builtin.«sorted» ⟨[.ref v], []⟩) _ _ _
  unfold Builtin.«sorted»
  refine wpAny_bind (m := checkCount "sorted" 1 1 _) (wpAny_pure ?_)
  refine wpAny_bind (PySem.W.kdu_collect (PySem.W.kdl_keys (knd := mixKind Y.prog Y.w) (kvs := vs) (ep := ep)) (I.ok.hd hc) ⟨vw, hat⟩ (by rw [← hlen]; exact hz) fun h' tk acc kp hacc => ?_)
  have hvv := keys_vals (prog := Y.prog) (w := Y.w) rel (us := acc.toList) (by rw [Array.length_toList]; exact hacc.1) fun j u hj => hacc.2 j u (by rw [← Array.getElem?_toList]; exact hj)
  rw [hks] at hvv
  have hal : acc.toList.length = ks.length := by
    have := hvv.length
    rw [List.length_map] at this
    exact this.symm
  have hz2 : ks.length ≤ sizeLine := by rw [hlk]; exact hz
  refine wpAny_bind (wpAny_newList ?_ (by rw [hal]; exact hz2))
  have ho : (h'.push (seqObj "list" acc.toList.toArray 0)).get? h'.objs.size = some (seqObj "list" acc.toList.toArray 0) := Heap.get?_push_size _ rfl
  have er := each_ints hvv
  refine wpAny_bind (wpAny_holding (PySem.W.list_sort_data (s := { s with heap := h'.push (seqObj "list" acc.toList.toArray 0), toks := tk }) (enc := PyData.int) ho er (er.mono fun u k ⟨t, e⟩ => ⟨_, by rw [e]; exact Reads.int k t, ?_⟩) (PySem.W.AllAlike.of fun _ _ => rfl) (PySem.W.Sortable.others fun _ => ⟨(fun z => nomatch z), (fun _ z => nomatch z)⟩) hz2 (fun b _ => ?_) fun out h1 h2 => ?_))
  · exact List.not_mem_nil
  · show Y.A.in1.units + 1 + 0 < cLine
    have : Y.A.in1.units = Y.A.units + 1 := rfl
    omega
  · have hv2 := ints_each h2
    obtain ⟨c, hc2⟩ := PyProof.Rows.sortedHeap_at (vs := acc.toList) (out := out.toArray) ho
    have I2 := I.kept (t' := tk) kp
    refine wpAny_pure ⟨_, rfl, .ref _, upd H h'.objs.size (.lst ((ks.mergeSort (PySem.W.dataLe false PyData.int)).map V.int)), I2.laid (t' := tk) (fun b o e => ?_) (Nat.le_refl _) ⟨?_, out, c, hv2, hc2⟩, rfl, q _ (I2.hok.fresh (Nat.le_refl _))⟩
    · exact (PyProof.Rows.sortedHeap_old (Nat.ne_of_lt (Heap.lt_size e)) (by rw [size_push']; exact Nat.lt_succ_of_lt (Heap.lt_size e))).trans (Heap.get?_push_of_some _ e)
    · rw [List.length_map, List.length_mergeSort]
      exact hz2
end
section
variable {W : WX} {X : XD} {ρ : En} {M : Mh} {Q : D → Mh → Prop} {A : DE} {K : PySem.W.Frag}
theorem l_listKeys {td : TE} (h : lE W td ρ M (fun x M1 => ∃ a kvs, x = .ref a ∧ M1 a = some (.dic kvs) ∧ Q (.lst (kvs.map fun kv => keyD kv.1)) M1) X) : lE W (tCB rListK (tCons (tKeysA td) tNil)) ρ M Q X := fun σ H k s e p px =>
  h σ H _ s e (fun u x H1 M1 q1 s1 t1 r1 => by
    obtain ⟨a, kvs, rfl, hm, q⟩ := q1
    cases r1
    obtain ⟨vs, ha, hr⟩ := s1.dic hm
    refine ⟨a, vs, rfl, ha, fun v hv => ?_⟩
    refine ⟨v, a, vs, rfl, upd_same, by rw [upd_ne (ne_of_none ha hv)]; exact ha, fun l hl => ?_⟩
    have T := (Stp.new (M := M1) (o := KeysV v a) hv).trans (Stp.new (M := M1) (o := .lst (vs.map fun kv => kV kv.1)) hl)
    exact p _ _ _ M1 q ((s1.new hv).new hl) (t1.trans T) (.lst (imm_new (s1.new hv) hl) (hr.keysL.mono T))) px
theorem l_sortKeys {td : TE} (h : lE W td ρ M (fun x M1 => ∃ (a : Addr) (kvs : List (Key × D)) (ks : List Int), x = .ref a ∧ M1 a = some (.dic kvs) ∧ (kvs.map fun kv => keyD kv.1) = ks.map D.int ∧ Q (.lst ((ks.mergeSort (PySem.W.dataLe false PyData.int)).map D.int)) M1) X) : lE W (tCB rSortK (tCons (tKeysA td) tNil)) ρ M Q X := fun σ H k s e p px =>
  h σ H _ s e (fun u x H1 M1 q1 s1 t1 r1 => by
    obtain ⟨a, kvs, ks, rfl, hm, hks, q⟩ := q1
    cases r1
    obtain ⟨vs, ha, hr⟩ := s1.dic hm
    refine ⟨a, vs, rfl, ha, fun v hv => ?_⟩
    have ek : (vs.map fun kv => kV kv.1) = ks.map V.int := by
      have := hr.keysL
      rw [hks] at this
      exact this.to_ints
    refine ⟨v, a, vs, ks, rfl, upd_same, by rw [upd_ne (ne_of_none ha hv)]; exact ha, ek, fun l hl => ?_⟩
    have T := (Stp.new (M := M1) (o := KeysV v a) hv).trans (Stp.new (M := M1) (o := .lst ((ks.mergeSort (PySem.W.dataLe false PyData.int)).map V.int)) hl)
    exact p _ _ _ M1 q ((s1.new hv).new hl) (t1.trans T) (.lst (imm_new (s1.new hv) hl) (RpL.ints _))) px
end
/-! ### int(..) -/
def rIntA : List V → Hp → VK → Prop := fun xs H Q => ((∃ i, xs = [.int i] ∧ Q (.int i) H) ∨ ∃ k, xs = [.bl k] ∧ Q (.int (if k then 1 else 0)) H) ∨ ∃ a n, xs = [.str a] ∧ PySem.intText? a = some n ∧ a.length ≤ 640 ∧ Q (.int n) H
theorem cr_intA {Y : Cx} : CallR Y (.type "int") rIntA := by
  intro pins s σ H xs us Q I r h
  rcases h with h | h
  · exact call_int1 pins s σ H xs us Q I r h
  · exact call_int_str pins s σ H xs us Q I r h
section
variable {M : Mh} {Q : D → Mh → Prop}
theorem c_intB {b : Bool} (q : Q (.int (if b then 1 else 0)) M) : lC rIntA [.bl b] M Q := fun us H k s r p => by
  cases r with
  | cons r1 r2 =>
    cases r2
    cases r1
    exact .inl (.inr ⟨b, rfl, p _ _ H M q s (Kn.refl _) (.int _)⟩)
theorem c_intS {a : List Nat} {n : Int} (h : PySem.intText? (S a) = some n) (hl : a.length ≤ 640) (q : Q (.int n) M) : lC rIntA [.str a] M Q := fun us H k s r p => by
  cases r with
  | cons r1 r2 =>
    cases r2
    cases r1
    exact .inr ⟨S a, n, rfl, h, by rw [SX.S_len]; exact hl, p _ _ H M q s (Kn.refl _) (.int _)⟩
end
/-! ### a cell that changes no more, wherever it is named in a thing -/
mutual
def frzD (a : Addr) (es : List D) : D → D
  | .ref b => if b = a then .lst es else .ref b
  | .tup ds => .tup (frzDs a es ds)
  | .lst ds => .lst (frzDs a es ds)
  | d => d
def frzDs (a : Addr) (es : List D) : List D → List D
  | [] => []
  | d :: ds => frzD a es d :: frzDs a es ds
end
mutual
theorem Rp.frzA {M : Mh} {H : Hp} {a : Addr} {es : List D} (s : Sta M H) (m : M a = some (.lst es)) : ∀ {v : V} {d : D}, Rp (imm H M) v d → Rp (imm H (deM M a)) v (frzD a es d)
  | _, _, .non => .non
  | _, _, .bl b => .bl b
  | _, _, .int i => .int i
  | _, _, .str x => .str x
  | _, _, .tup h hs => .tup (Stp.frz m _ _ h) (RpL.frzA s m hs)
  | _, _, .lst h hs => .lst (Stp.frz m _ _ h) (RpL.frzA s m hs)
  | _, _, .ref b => by
    rw [frzD]
    by_cases e : b = a
    · subst e
      rw [if_pos rfl]
      exact Rp.frz s m
    · rw [if_neg e]
      exact .ref b
  | _, _, .exc h => .exc (Stp.frz m _ _ h)
  | _, _, .ty n => .ty n
  | _, _, .opq h k => .opq (k _ _ (Stp.frz m) h) k
theorem RpL.frzA {M : Mh} {H : Hp} {a : Addr} {es : List D} (s : Sta M H) (m : M a = some (.lst es)) : ∀ {vs : List V} {ds : List D}, RpL (imm H M) vs ds → RpL (imm H (deM M a)) vs (frzDs a es ds)
  | _, _, .nil => .nil
  | _, _, .cons h hs => .cons (Rp.frzA s m h) (RpL.frzA s m hs)
end
section
variable {W : WX} {X : XD} {ρ : En} {M : Mh} {Q : D → Mh → Prop} {A : DE} {K : PySem.W.Frag}
/-- in an answer: the cells that a thing names change no more -/
theorem l_frzA {te : TE} (h : lE W te ρ M (fun d M1 => ∃ a es, M1 a = some (.lst es) ∧ Q (frzD a es d) (deM M1 a)) X) : lE W te ρ M Q X := fun σ H k s e p px =>
  h σ H k s e (fun v d H1 M1 q1 s1 t1 r1 => by
    obtain ⟨a, es, m, q⟩ := q1
    exact p _ _ H1 _ q (s1.frz m) (t1.trans (Stp.frz m)) (r1.frzA s1 m)) px
end
/-! ### texts: what the program's functions compute -/
def okC (c : Nat) : Bool := decide (32 ≤ c) && decide (c < 127) && decide (c ≠ 37)
def okT (m : Nat) (s : List Nat) : Bool := decide (s.length ≤ m) && s.all okC
def words (s : List Nat) : List (List Nat) := TL.spl [32] 0 [] s
def fold (s : List Nat) : List Nat := TL.joinL [32] ((words (s.map lo1)).filter fun w => decide (w ≠ []))
def optD : Option Nat → D
  | some n => .int (n : Int)
  | none => .non
def rankF (m w : List Nat) : Option Nat := if m = w then some 0 else if isAt w m 0 = true then some 1 else if hasT (32 :: w) m = true then some 2 else if hasT w m = true then some 3 else none
def rankP (row query : List Nat) : Option Nat := rankF (fold row) (fold query)
/-! the promises -/
def ds_look_text (g : G) : DSp := fun xs M Q E => ∃ (s : List Nat) (m : Nat), xs = [.str s, .int (m : Int)] ∧ s.length ≤ 1000 ∧ (okT m s = true → Q .non M) ∧ (okT m s = false → E g.cT M)
abbrev sp_look_text (g : G) : Sp := lift 2 (ds_look_text g)
def ds_folded (g : G) : DSp := fun xs M Q E => ∃ s : List Nat, xs = [.str s] ∧ s.length ≤ 1000 ∧ (okT 20 s = true → Q (.str (fold s)) M) ∧ (okT 20 s = false → E g.cT M)
abbrev sp_folded (g : G) : Sp := lift 1 (ds_folded g)
def ds_rank (g : G) : DSp := fun xs M Q E => ∃ row query : List Nat, xs = [.str row, .str query] ∧ row.length ≤ 1000 ∧ query.length ≤ 1000 ∧ ((okT 12 query && okT 20 row) = true → Q (optD (rankP row query)) M) ∧ ((okT 12 query && okT 20 row) = false → E g.cT M)
abbrev sp_rank (g : G) : Sp := lift 2 (ds_rank g)
abbrev nm_look_text : List Str := ["text", "most", "sign"]
def t_look_text (g : G) (W : WX) : TS := (tIfS (tOr (tTest (tOp (rGtA) (tCB (rLenA g.K) (tCons (tVar 0) tNil)) (tVar 1))) (tNot (tB (tCB (rAll g.K) (tCons (tLc (iStr (tVar 0)) (gName 2) tYes (tAndV (tChain (rLeA) (rLtA) (tC (.int 32)) (tCB (rOrd) (tCons (tVar 2) tNil)) (tC (.int 127))) (tOp (rNeA g.K) (tCB (rOrd) (tCons (tVar 2) tNil)) (tC (.int 37)))) [2]) tNil))))) (tRaiseC g.cT W) tNext)
abbrev nm_folded : List Str := ["text", "word"]
def t_folded (g : G) (W : WX) : TS := (tSeq (tDrop (tCallS (sp_look_text g) (WE W) (tCons (tVar 0) (tCons (tC (.int 20)) tNil)))) (tRet (tBM g.K "str" (rJoin g.K) (tC (.str (S [32]))) (tCons (tLc (iList g.K (tBM g.K "str" (rSplit) (tBM0 g.K "str" (rLower) (tVar 0)) (tCons (tC (.str (S [32]))) tNil))) (gName 1) (tTest (tOp (rNeA g.K) (tVar 1) (tC (.str (S []))))) (tVar 1) [1]) tNil))))
abbrev nm_rank : List Str := ["row", "query", "mine", "wanted"]
def t_rank (g : G) (W : WX) : TS := (tSeq (tDrop (tCallS (sp_look_text g) (WE W) (tCons (tVar 1) (tCons (tC (.int 12)) tNil)))) (tSeq (tAsg (tCallS (sp_folded g) (WE W) (tCons (tVar 0) tNil)) (gName 2)) (tSeq (tAsg (tCallS (sp_folded g) (WE W) (tCons (tVar 1) tNil)) (gName 3)) (tSeq (tIfS (tTest (tOp (rEqA g.K) (tVar 2) (tVar 3))) (tRet (tC (.int 0))) tNext) (tSeq (tIfS (tB (tBM g.K "str" (rStarts) (tVar 2) (tCons (tVar 3) tNil))) (tRet (tC (.int 1))) tNext) (tSeq (tIfS (tTest (tOp (rInA g.K) (tOp (rAddA g.K) (tC (.str (S [32]))) (tVar 3)) (tVar 2))) (tRet (tC (.int 2))) tNext) (tRet (tIf (tTest (tOp (rInA g.K) (tVar 3) (tVar 2))) (tC (.int 3)) (tC .non)))))))))
local macro_rules | `(tactic| walk_at "d1") => `(tactic| first
  | with_reducible refine s_seq ?_
  | with_reducible refine s_next ?_
  | with_reducible refine s_asg ?_
  | (with_reducible refine' g_nameN ?h ?_; (case h => first | (simp only [wipeD, List.set]; exact rfl) | exact rfl))
  | with_reducible refine s_ret ?_
  | with_reducible refine s_retN ?_
  | with_reducible refine s_drop ?_
  | with_reducible refine s_if ?_
  | with_reducible refine t_test ?_
  | with_reducible refine t_B ?_
  | with_reducible refine t_not ?_
  | with_reducible refine t_or ?_
  | with_reducible refine t_and ?_
  | with_reducible refine t_truA ?_
  | with_reducible refine l_op ?_
  | with_reducible refine l_un ?_
  | with_reducible refine l_var rfl ?_
  | with_reducible refine l_int ?_
  | with_reducible refine l_strS ?_
  | with_reducible refine l_non ?_
  | with_reducible refine l_bl ?_
  | with_reducible refine l_ref ?_
  | with_reducible refine l_ty ?_
  | with_reducible refine l_andV ?_
  | with_reducible refine l_orV ?_
  | with_reducible refine l_notV ?_
  | with_reducible refine l_if ?_
  | with_reducible refine l_chainA ?_
  | with_reducible refine a_cons ?_
  | with_reducible refine a_nil ?_
  | with_reducible refine l_tup ?_
  | with_reducible refine l_call ?_
  | with_reducible refine l_cb ?_
  | with_reducible refine l_bmS ?_
  | with_reducible refine l_bm0S ?_
  | with_reducible refine l_sl ?_
  | with_reducible refine o_none ?_
  | with_reducible refine o_some ?_
  | with_reducible refine r_addI ?_
  | with_reducible refine r_sub ?_
  | with_reducible refine r_lt ?_
  | with_reducible refine r_le ?_
  | with_reducible refine r_gt ?_
  | with_reducible refine r_ge ?_
  | with_reducible refine r_eqS ?_
  | with_reducible refine r_neS ?_
  | with_reducible refine r_eqI ?_
  | with_reducible refine r_neI ?_
  | with_reducible refine r_eqB ?_
  | with_reducible refine r_neB ?_
  | with_reducible refine r_inS ?_
  | with_reducible refine r_ninS ?_
  | with_reducible refine u_neg ?_
  | with_reducible refine r_isN rfl ?_
  | with_reducible refine r_notN rfl ?_
  | with_reducible refine c_ord ?_
  | with_reducible refine c_max2 ?_
  | with_reducible refine c_min2 ?_
  | with_reducible refine m_starts ?_
  | with_reducible refine m_find ?_
  | with_reducible refine s_raiseC ?_
  | with_reducible refine t_yes ?_
  | with_reducible refine br_t ?_
  | with_reducible refine br_f ?_
  | with_reducible refine i_str ?_
  | with_reducible refine i_list ?_
  | with_reducible refine i_tup ?_
  | with_reducible refine i_rng1 ?_
  | (with_reducible refine c_lenS ?h ?_; (case h => first | omega | (simp; done)))
  | refine Exists.intro _ (And.intro rfl ?_)
  | refine And.intro rfl ?_
  | refine And.intro (Exists.intro _ rfl) ?_
  | refine And.intro (Nat.le_of_ble_eq_true rfl) ?_)
local macro_rules | `(tactic| walk_at "d") => `(tactic| repeat (walk_at "d1"))
theorem d_look_text {g : G} : Keeps 2 nm_look_text (t_look_text g) (ds_look_text g) := by
  rintro W xs M Q E - ⟨s, m, rfl, hl, q1, q2⟩
  show lS W (t_look_text g W) [some (.str s), some (.int m), none] M _ _
  unfold t_look_text
  walk_at "d"
  refine ⟨fun h => ?_, fun h => ?_⟩
  · walk_at "d"
    refine q2 ?_
    unfold okT
    rw [decide_eq_false (by have := of_decide_eq_true h; omega)]
    rfl
  · have h1 : s.length ≤ m := by
      have := of_decide_eq_false h
      omega
    walk_at "d"
    refine l_lcP (wip_name (by decide)) ?_
    walk_at "d"
    refine ⟨fun d => match d with | .str [c] => some (.bl (okC c)) | _ => none, by rw [List.length_map]; omega, fun _ _ => trivial, ?_, ?_⟩
    · intro d hd M' _
      obtain ⟨c, hc, rfl⟩ := List.mem_map.mp hd
      walk_at "d"
      have fin : ∀ b : Bool, b = okC c → (match (D.str [c] : D) with | .str [c] => some (D.bl (okC c)) | _ => none) = some (.bl b) := fun b e => by rw [e]
      refine ⟨fun h2 => ?_, fun h2 => ?_⟩
      · walk_at "d"
        refine ⟨fun h3 => ?_, fun h3 => ?_⟩
        · walk_at "d"
          refine fin _ ?_
          unfold okC
          have e2 : 32 ≤ c := by have := of_decide_eq_true h2; omega
          have e3 : c < 127 := by have := of_decide_eq_true h3; omega
          rw [decide_eq_true e2, decide_eq_true e3]
          by_cases h4 : c = 37
          · subst h4
            rfl
          · rw [decide_eq_true h4, decide_eq_false (by omega)]
            rfl
        · walk_at "d"
          refine fin _ ?_
          unfold okC
          rw [decide_eq_false (by have := of_decide_eq_false h3; omega : ¬ c < 127), Bool.and_false]
          rfl
      · walk_at "d"
        refine fin _ ?_
        unfold okC
        rw [decide_eq_false (by have := of_decide_eq_false h2; omega : ¬ 32 ≤ c)]
        rfl
    · have e : (s.map fun c => D.str [c]).filterMap (fun d => match d with | .str [c] => some (.bl (okC c)) | _ => none) = (s.map okC).map D.bl := by
        rw [List.filterMap_map, List.map_map, ← List.filterMap_eq_map]
        rfl
      rw [e]
      walk_at "d"
      refine c_all isL_lst ?_
      walk_at "d"
      have e2 : ((s.map okC).all id) = s.all okC := by rw [List.all_map]; rfl
      rw [e2]
      refine ⟨fun h2 => ?_, fun h2 => ?_⟩
      · walk_at "d"
        refine q2 ?_
        unfold okT
        rw [Bool.not_eq_true'] at h2
        rw [h2, Bool.and_false]
      · walk_at "d"
        refine q1 ?_
        unfold okT
        rw [Bool.not_eq_false'] at h2
        rw [h2, decide_eq_true h1]
        rfl
theorem okC_asc {c : Nat} (h : okC c = true) : c < 128 := by
  unfold okC at h
  simp only [Bool.and_eq_true, decide_eq_true_eq] at h
  omega
theorem okT_asc {m : Nat} {s : List Nat} (h : okT m s = true) : asc s = true := by
  unfold okT at h
  rw [Bool.and_eq_true] at h
  unfold asc
  rw [List.all_eq_true] at h ⊢
  intro c hc
  exact decide_eq_true (okC_asc (h.2 c hc))
theorem okT_len {m : Nat} {s : List Nat} (h : okT m s = true) : s.length ≤ m := by
  unfold okT at h
  rw [Bool.and_eq_true] at h
  exact of_decide_eq_true h.1
theorem spl_len : ∀ (k : Nat) (acc l : List Nat), ((TL.spl [32] k acc l).map List.length).sum ≤ acc.length + l.length ∧ (TL.spl [32] k acc l).length ≤ l.length + 1
  | k, acc, [] => by rw [TL.spl_nil]; simp
  | k + 1, acc, c :: r => by
    have ih := spl_len k acc r
    have e : TL.spl [32] (k + 1) acc (c :: r) = TL.spl [32] k acc r := rfl
    rw [e, List.length_cons]
    omega
  | 0, acc, c :: r => by
    cases h : TL.pre [32] (c :: r) with
    | true =>
      have ih := spl_len 0 [] r
      have e : TL.spl [32] 0 acc (c :: r) = acc :: TL.spl [32] 0 [] r := TL.spl_hit (acc := acc) h
      rw [e]
      rw [List.map_cons, List.sum_cons, List.length_cons, List.length_cons]
      simp only [List.length_nil] at ih
      omega
    | false =>
      have ih := spl_len 0 (acc ++ [c]) r
      have e := TL.spl_miss (acc := acc) h
      rw [e, List.length_cons]
      rw [List.length_append] at ih
      simp only [List.length_cons, List.length_nil] at ih
      omega
theorem filter_lens (p : List Nat → Bool) : ∀ ws : List (List Nat), ((ws.filter p).map List.length).sum ≤ (ws.map List.length).sum ∧ (ws.filter p).length ≤ ws.length
  | [] => by simp
  | w :: ws => by
    have ih := filter_lens p ws
    rw [List.filter_cons]
    split
    · rw [List.map_cons, List.map_cons, List.sum_cons, List.sum_cons, List.length_cons, List.length_cons]
      omega
    · rw [List.map_cons, List.sum_cons, List.length_cons]
      omega
theorem filterMap_str (p : List Nat → Bool) : ∀ ws : List (List Nat), (ws.map D.str).filterMap (fun d => match d with | .str w => if p w = true then some (D.str w) else none | _ => none) = (ws.filter p).map D.str
  | [] => rfl
  | w :: ws => by
    rw [List.map_cons, List.filter_cons]
    by_cases h : p w = true
    · rw [if_pos h, List.map_cons, ← filterMap_str p ws, List.filterMap_cons]
      simp only [h, if_true]
    · rw [if_neg h, ← filterMap_str p ws, List.filterMap_cons]
      simp only [h, if_false]
      simp [h]
theorem lo1_len (s : List Nat) : (s.map lo1).length = s.length := List.length_map _
theorem d_folded {g : G} : Keeps 1 nm_folded (t_folded g) (ds_folded g) := by
  rintro W xs M Q E - ⟨s, rfl, hl, q1, q2⟩
  show lS W (t_folded g W) [some (.str s), none] M _ _
  unfold t_folded
  walk_at "d"
  refine ⟨s, 20, rfl, hl, fun h => ?_, fun h => q2 h⟩
  walk_at "d"
  refine l_lcP (wip_name (by decide)) ?_
  walk_at "d"
  refine m_lower (okT_asc h) (by omega) ?_
  walk_at "d"
  refine m_split (by decide) (by decide) (by rw [lo1_len]; omega) ?_
  have hs := spl_len 0 [] (s.map lo1)
  have hs2 := filter_lens (fun w => decide (w ≠ [])) (words (s.map lo1))
  rw [lo1_len] at hs
  simp only [List.length_nil] at hs
  refine ⟨_, isL_lst, fun d => match d with | .str w => if decide (w ≠ []) = true then some (D.str w) else none | _ => none, by rw [List.length_map]; omega, fun _ _ => isL_lst, ?_, ?_⟩
  · intro d hd M' _
    obtain ⟨w, hw, rfl⟩ := List.mem_map.mp hd
    walk_at "d"
    refine ⟨fun h2 => ?_, fun h2 => ⟨rfl, ?_⟩⟩
    · walk_at "d"
      have h3 : w ≠ [] := fun z => by
        rw [z] at h2
        cases h2
      simp [h3]
    · have h3 : w = [] := by simpa using h2
      simp [h3]
  · rw [filterMap_str]
    walk_at "d"
    have hs3 : words (s.map lo1) = TL.spl [32] 0 [] (s.map lo1) := rfl
    rw [hs3] at hs2
    refine m_join (.inl isL_lst) ?_ ?_
    · show (List.map List.length ((words (s.map lo1)).filter fun w => decide (w ≠ []))).sum + _ ≤ _
      rw [hs3]
      simp only [List.length_cons, List.length_nil]
      omega
    · exact q1 h
theorem fold_len {s : List Nat} : (fold s).length ≤ 2 * s.length + 1 := by
  have hs := spl_len 0 [] (s.map lo1)
  have hs2 := filter_lens (fun w => decide (w ≠ [])) (words (s.map lo1))
  rw [lo1_len] at hs
  simp only [List.length_nil] at hs
  have hj : ∀ ws : List (List Nat), (TL.joinL [32] ws).length ≤ (ws.map List.length).sum + ws.length := by
    intro ws
    induction ws with
    | nil => simp [TL.joinL]
    | cons w ws ih =>
      cases ws with
      | nil => simp [TL.joinL]
      | cons v vs =>
        have e : TL.joinL [32] (w :: v :: vs) = w ++ ([32] ++ TL.joinL [32] (v :: vs)) := by
          first | rfl | (unfold TL.joinL; simp)
        rw [e, List.length_append, List.length_append, List.map_cons, List.sum_cons, List.length_cons (a := w)]
        simp only [List.length_cons, List.length_nil] at ih ⊢
        omega
  have h3 := hj ((words (s.map lo1)).filter fun w => decide (w ≠ []))
  have hs3 : words (s.map lo1) = TL.spl [32] 0 [] (s.map lo1) := rfl
  unfold fold
  rw [hs3] at hs2 h3 ⊢
  omega
theorem d_rank {g : G} : Keeps 2 nm_rank (t_rank g) (ds_rank g) := by
  rintro W xs M Q E - ⟨row, query, rfl, hl, hl2, q1, q2⟩
  show lS W (t_rank g W) [some (.str row), some (.str query), none, none] M _ _
  unfold t_rank
  walk_at "d"
  refine ⟨query, 12, rfl, hl2, fun h => ?_, fun h => q2 (by rw [h]; rfl)⟩
  walk_at "d"
  refine ⟨hl, fun h2 => ?_, fun h2 => q2 (by rw [h2, Bool.and_false])⟩
  walk_at "d"
  have h3 : okT 20 query = true := by
    unfold okT at h ⊢
    rw [Bool.and_eq_true] at h ⊢
    exact ⟨decide_eq_true (by have := of_decide_eq_true h.1; omega), h.2⟩
  refine ⟨hl2, fun _ => ?_, fun z => absurd z (by rw [h3]; exact Bool.noConfusion)⟩
  have q := q1 (by rw [h, h2]; rfl)
  unfold rankP rankF at q
  have hlen : (fold query).length ≤ 25 := by
    have := fold_len (s := query)
    have := okT_len h
    omega
  walk_at "d"
  refine ⟨fun h4 => ?_, fun h4 => ?_⟩
  · rw [if_pos (of_decide_eq_true h4)] at q
    walk_at "d"
    exact q
  rw [if_neg (of_decide_eq_false h4)] at q
  walk_at "d"
  refine ⟨fun h5 => ?_, fun h5 => ?_⟩
  · rw [if_pos h5] at q
    walk_at "d"
    exact q
  rw [if_neg (by rw [h5]; exact Bool.false_ne_true)] at q
  walk_at "d"
  refine r_addS (by simp only [List.length_cons, List.length_nil]; omega) ?_
  walk_at "d"
  have e6 : [32] ++ fold query = 32 :: fold query := rfl
  rw [e6]
  refine ⟨fun h6 => ?_, fun h6 => ?_⟩
  · rw [if_pos h6] at q
    walk_at "d"
    exact q
  rw [if_neg (by rw [h6]; exact Bool.false_ne_true)] at q
  walk_at "d"
  refine ⟨fun h7 => ?_, fun h7 => ?_⟩
  · rw [if_pos h7] at q
    walk_at "d"
    exact q
  · rw [if_neg (by rw [h7]; exact Bool.false_ne_true)] at q
    walk_at "d"
    exact q

/-! ### the laws' helpers: draws -/
def ds__law_cell (g : G) : DSp := fun xs M Q _ => ∃ (ns : List Int) (k : Int), xs = [scr g.K ns, .int k] ∧ 0 ≤ k ∧ ∀ n, Q (.int n) M
abbrev sp__law_cell (g : G) : Sp := lift 2 (ds__law_cell g)
def ds__law_mix (g : G) : DSp := fun xs M Q _ => ∃ (ns : List Int) (k : Int), xs = [scr g.K ns, .int k] ∧ 0 ≤ k ∧ k ≤ 1000000 ∧ ∀ n, 0 ≤ n → n < 4294967231 → Q (.int n) M
abbrev sp__law_mix (g : G) : Sp := lift 2 (ds__law_mix g)
/-- the town's list, so long at most -/
def Twn (M : Mh) (t : Addr) (n : Nat) : Prop := ∃ zs, M t = some (.lst zs) ∧ zs.length ≤ n
/-- only the town changed -/
def Tw (M : Mh) (t : Addr) (n : Nat) (M' : Mh) : Prop := (∃ zs, M' = upM M t (.lst zs) ∧ zs.length ≤ n) ∧ ∃ zs, M t = some (.lst zs)
theorem Tw.twn {M M' : Mh} {t : Addr} {n : Nat} (h : Tw M t n M') : Twn M' t n := by
  obtain ⟨⟨zs, rfl, hl⟩, _⟩ := h
  exact ⟨zs, upM_same, hl⟩
theorem Twn.mono {M : Mh} {t : Addr} {n m : Nat} (h : Twn M t n) (k : n ≤ m) : Twn M t m := by
  obtain ⟨zs, e, hl⟩ := h
  exact ⟨zs, e, Nat.le_trans hl k⟩
theorem Tw.ne {M M' : Mh} {t b : Addr} {n : Nat} (h : Tw M t n M') (k : b ≠ t) : M' b = M b := by
  obtain ⟨⟨zs, rfl, hl⟩, _⟩ := h
  exact upM_ne k
theorem Tw.trans {M M' M'' : Mh} {t : Addr} {n m : Nat} (h : Tw M t n M') (h2 : Tw M' t m M'') : Tw M t m M'' := by
  obtain ⟨⟨zs, rfl, hl⟩, q⟩ := h
  obtain ⟨⟨ys, rfl, hl2⟩, _⟩ := h2
  exact ⟨⟨ys, upM_upM, hl2⟩, q⟩
theorem Tw.mono {M M' : Mh} {t : Addr} {n m : Nat} (h : Tw M t n M') (k : n ≤ m) : Tw M t m M' := by
  obtain ⟨⟨zs, e, hl⟩, q⟩ := h
  exact ⟨⟨zs, e, Nat.le_trans hl k⟩, q⟩
theorem Tw.refl {M : Mh} {t : Addr} {n : Nat} (h : Twn M t n) : Tw M t n M := by
  obtain ⟨zs, e, hl⟩ := h
  exact ⟨⟨zs, (upM_id e).symm, hl⟩, zs, e⟩
theorem Tw.none {M M' : Mh} {t a : Addr} {n : Nat} (h : Tw M t n M') : (M' a = none) ↔ (M a = none) := by
  obtain ⟨⟨zs, rfl, hl⟩, ys, q⟩ := h
  by_cases e : a = t
  · subst e
    rw [upM_same, q]
    simp
  · rw [upM_ne e]
/-- a draw below m: any of them -/
def ds__law_draw (g : G) : DSp := fun xs M Q _ => ∃ (ns : List Int) (t : Addr) (m : Nat) (n : Nat), xs = [scr g.K ns, .ref t, .int (m : Int)] ∧ 0 < m ∧ n < 90000 ∧ Twn M t n ∧ ∀ (d : Nat) M', d < m → Tw M t (n + 1) M' → Q (.int (d : Int)) M'
abbrev sp__law_draw (g : G) : Sp := lift 3 (ds__law_draw g)
/-- a list or a tuple, other than the town's -/
def isSqN (M : Mh) (t : Addr) (x : D) (ds : List D) : Prop := x = .lst ds ∨ x = .tup ds ∨ ∃ a, a ≠ t ∧ x = .ref a ∧ M a = some (.lst ds)
theorem isSqN.sq {M : Mh} {t : Addr} {x : D} {ds : List D} (h : isSqN M t x ds) : isSq M x ds := by
  rcases h with rfl | rfl | ⟨a, _, rfl, m⟩
  · exact .inl isL_lst
  · exact .inr rfl
  · exact .inl (isL_ref m)
theorem isSqN.tw {M M' : Mh} {t : Addr} {n : Nat} {x : D} {ds : List D} (h : isSqN M t x ds) (w : Tw M t n M') : isSqN M' t x ds := by
  rcases h with rfl | rfl | ⟨a, na, rfl, m⟩
  · exact .inl rfl
  · exact .inr (.inl rfl)
  · exact .inr (.inr ⟨a, na, rfl, by rw [w.ne na]; exact m⟩)
def ds__law_pick (g : G) : DSp := fun xs M Q _ => ∃ (ns : List Int) (t : Addr) (x : D) (ds : List D) (n : Nat), xs = [scr g.K ns, .ref t, x] ∧ isSqN M t x ds ∧ ds ≠ [] ∧ n < 90000 ∧ Twn M t n ∧ ∀ d M', d ∈ ds → Tw M t (n + 1) M' → Q d M'
abbrev sp__law_pick (g : G) : Sp := lift 3 (ds__law_pick g)
abbrev nm__law_cell : List Str := ["_law_script", "_law_k"]
def t__law_cell (g : G) (W : WX) : TS := (tSeq (tIfS (tTruA g.K (tVar 0)) (tRet (tOp (rIx g.K) (tVar 0) (tOp (rModA) (tVar 1) (tCB (rLenA g.K) (tCons (tVar 0) tNil))))) tNext) (tRet (tC (.int 0))))
abbrev nm__law_mix : List Str := ["_law_script", "_law_k", "_law_number"]
def t__law_mix (g : G) (W : WX) : TS := (tSeq (tAsg (tOp (rModA) (tOp (rAddA g.K) (tCallS (sp__law_cell g) (WE W) (tCons (tVar 0) (tCons (tVar 1) tNil))) (tOp (rMulA) (tC (.int 104729)) (tOp (rAddA g.K) (tVar 1) (tC (.int 1))))) (tC (.int 4294967291))) (gName 2)) (tSeq (tAsg (tOp (rModA) (tOp (rPowA) (tVar 2) (tC (.int 5))) (tC (.int 4294967279))) (gName 2)) (tRet (tOp (rModA) (tOp (rAddA g.K) (tOp (rMulA) (tOp (rFdivA) (tVar 2) (tC (.int 64))) (tC (.int 69621))) (tVar 2)) (tC (.int 4294967231))))))
abbrev nm__law_draw : List Str := ["_law_script", "_law_town", "_law_many"]
def t__law_draw (g : G) (W : WX) : TS := (tSeq (tDrop (tBM g.K "list" (rAppend) (tVar 1) (tCons (tC (.int 0)) tNil))) (tRet (tOp (rModA) (tOp (rFdivA) (tCallS (sp__law_mix g) (WE W) (tCons (tVar 0) (tCons (tCB (rLenA g.K) (tCons (tVar 1) tNil)) tNil))) (tC (.int 8))) (tVar 2))))
abbrev nm__law_pick : List Str := ["_law_script", "_law_town", "_law_some"]
def t__law_pick (g : G) (W : WX) : TS := (tRet (tOp (rIx g.K) (tVar 2) (tCallS (sp__law_draw g) (WE W) (tCons (tVar 0) (tCons (tVar 1) (tCons (tCB (rLenA g.K) (tCons (tVar 2) tNil)) tNil))))))

theorem d__law_cell {g : G} : Keeps 2 nm__law_cell (t__law_cell g) (ds__law_cell g) := by
  rintro W xs M Q E - ⟨ns, k, rfl, hk, q⟩
  show lS W (t__law_cell g W) [some (scr g.K ns), some (.int k)] M _ _
  unfold t__law_cell
  walk_at "d"
  refine ⟨_, tru_scr, fun h => ?_, fun h => ?_⟩
  · walk_at "d"
    refine c_lenC ?_
    have hlen : 0 < ns.length := by
      cases ns with
      | nil => cases h
      | cons x r => exact Nat.succ_pos _
    refine r_mod (by omega) ?_
    have h0 : 0 ≤ k % (ns.length : Int) := Int.emod_nonneg _ (by omega)
    have h1 : k % (ns.length : Int) < ns.length := Int.emod_lt_of_pos _ (by omega)
    obtain ⟨j, hj⟩ : ∃ j : Nat, k % (ns.length : Int) = (j : Int) := ⟨(k % (ns.length : Int)).toNat, by omega⟩
    rw [hj]
    have hlt : j < ns.length := by omega
    exact r_ixC (at_nat (List.getElem?_eq_getElem hlt)) (q _)
  · walk_at "d"
    exact q _
theorem d__law_mix {g : G} : Keeps 2 nm__law_mix (t__law_mix g) (ds__law_mix g) := by
  rintro W xs M Q E - ⟨ns, k, rfl, hk, hk2, q⟩
  show lS W (t__law_mix g W) [some (scr g.K ns), some (.int k), none] M _ _
  unfold t__law_mix
  walk_at "d"
  refine ⟨ns, k, rfl, hk, fun n => ?_⟩
  walk_at "d"
  refine r_mulI (.inl ⟨by omega, by omega⟩) ?_
  walk_at "d"
  refine r_mod (by omega) ?_
  have b1 := Int.emod_nonneg (n + 104729 * (k + 1)) (show (4294967291 : Int) ≠ 0 by omega)
  have b2 := Int.emod_lt_of_pos (n + 104729 * (k + 1)) (show (0 : Int) < 4294967291 by omega)
  generalize (n + 104729 * (k + 1)) % 4294967291 = c at b1 b2
  walk_at "d"
  refine r_pow ⟨by omega, by omega, by omega⟩ ?_
  walk_at "d"
  refine r_mod (by omega) ?_
  have b3 := Int.emod_nonneg (c ^ (5 : Int).toNat) (show (4294967279 : Int) ≠ 0 by omega)
  have b4 := Int.emod_lt_of_pos (c ^ (5 : Int).toNat) (show (0 : Int) < 4294967279 by omega)
  generalize (c ^ (5 : Int).toNat) % 4294967279 = d at b3 b4
  walk_at "d"
  refine r_fdiv ⟨by omega, by omega⟩ ?_
  walk_at "d"
  refine r_mulI (.inr ⟨by omega, by omega⟩) ?_
  walk_at "d"
  refine r_mod (by omega) ?_
  exact q _ (Int.emod_nonneg _ (by omega)) (Int.emod_lt_of_pos _ (by omega))
theorem d__law_draw {g : G} : Keeps 3 nm__law_draw (t__law_draw g) (ds__law_draw g) := by
  rintro W xs M Q E - ⟨ns, t, m, n, rfl, hm, hn, ⟨zs, ht, hz⟩, q⟩
  show lS W (t__law_draw g W) [some (scr g.K ns), some (.ref t), some (.int m)] M _ _
  unfold t__law_draw
  walk_at "d"
  refine l_bmL ?_
  walk_at "d"
  refine ⟨⟨zs, isL_ref ht⟩, ?_⟩
  walk_at "d"
  refine m_append ht (by omega) ?_
  walk_at "d"
  refine c_len (.inl (isL_ref upM_same)) ?_
  walk_at "d"
  refine ⟨ns, _, rfl, by omega, ?_, fun k h0 h1 => ?_⟩
  · rw [List.length_append]
    simp only [List.length_cons, List.length_nil]
    omega
  walk_at "d"
  refine r_fdiv ⟨by omega, by omega⟩ ?_
  walk_at "d"
  refine r_mod (by omega) ?_
  have b1 := Int.emod_nonneg (k / 8) (show (m : Int) ≠ 0 by omega)
  have b2 := Int.emod_lt_of_pos (k / 8) (show (0 : Int) < m by omega)
  obtain ⟨j, hj⟩ : ∃ j : Nat, (k / 8) % (m : Int) = (j : Int) := ⟨((k / 8) % (m : Int)).toNat, by omega⟩
  rw [hj]
  refine q j _ (by omega) ⟨⟨_, rfl, ?_⟩, zs, ht⟩
  rw [List.length_append]
  simp only [List.length_cons, List.length_nil]
  omega
theorem d__law_pick {g : G} : Keeps 3 nm__law_pick (t__law_pick g) (ds__law_pick g) := by
  rintro W xs M Q E - ⟨ns, t, x, ds, n, rfl, hx, hd, hn, ht, q⟩
  show lS W (t__law_pick g W) [some (scr g.K ns), some (.ref t), some x] M _ _
  unfold t__law_pick
  walk_at "d"
  refine c_len hx.sq ?_
  walk_at "d"
  have hlen : 0 < ds.length := List.length_pos_iff.mpr hd
  refine ⟨ns, t, ds.length, n, rfl, hlen, hn, ht, fun d M' hdm w => ?_⟩
  exact r_ix (hx.tw w).sq (at_nat (List.getElem?_eq_getElem hdm)) (q _ _ (List.getElem_mem hdm) w)

/-! ### refusals -/
inductive Xw where
  | text | number | ask
def Xw.cls (g : G) : Xw → Addr
  | .text => g.cT
  | .number => g.cN
  | .ask => g.cA
def Xw.sign : Xw → List Nat
  | .text => [116, 101, 120, 116]
  | .number => [110, 117, 109, 98, 101, 114]
  | .ask => [97, 115, 107]
/-- ("refused", ..) -/
def refD (w : Xw) : D := .tup [.str [114, 101, 102, 117, 115, 101, 100], .str w.sign]
structure XF (g : G) : Prop where
  eT : ExcC g.K g.cT
  eN : ExcC g.K g.cN
  eA : ExcC g.K g.cA
  mT : PySem.W.exmOne g.K (.ref g.cT) (.ref g.cE) = some true
  mN : PySem.W.exmOne g.K (.ref g.cN) (.ref g.cE) = some true
  mA : PySem.W.exmOne g.K (.ref g.cA) (.ref g.cE) = some true
  kTT : PySem.W.kitOne g.K (.ref g.cT) (.ref g.cT) = some true
  kTN : PySem.W.kitOne g.K (.ref g.cT) (.ref g.cN) = some false
  kTA : PySem.W.kitOne g.K (.ref g.cT) (.ref g.cA) = some false
  kNT : PySem.W.kitOne g.K (.ref g.cN) (.ref g.cT) = some false
  kNN : PySem.W.kitOne g.K (.ref g.cN) (.ref g.cN) = some true
  kNA : PySem.W.kitOne g.K (.ref g.cN) (.ref g.cA) = some false
  kAT : PySem.W.kitOne g.K (.ref g.cA) (.ref g.cT) = some false
  kAN : PySem.W.kitOne g.K (.ref g.cA) (.ref g.cN) = some false
  kAA : PySem.W.kitOne g.K (.ref g.cA) (.ref g.cA) = some true
  vT : PySem.W.kitOne g.K (.ref g.cT) (.type "ValueError") = some true
  vN : PySem.W.kitOne g.K (.ref g.cN) (.type "ValueError") = some true
  vA : PySem.W.kitOne g.K (.ref g.cA) (.type "ValueError") = some true
theorem XF.m {g : G} (x : XF g) : ∀ w : Xw, PySem.W.exmOne g.K (.ref (w.cls g)) (.ref g.cE) = some true
  | .text => x.mT
  | .number => x.mN
  | .ask => x.mA
def ds__law_refusal (g : G) : DSp := fun xs M Q _ => (xs = [.non] ∧ Q (.tup [.str [111, 107]]) M) ∨ ∃ w : Xw, xs = [.exc (w.cls g)] ∧ Q (refD w) M
abbrev sp__law_refusal (g : G) : Sp := lift 1 (ds__law_refusal g)
/-! ### the laws' own folding and ranks -/
def lstep (acc : List Nat) (c : Nat) : List Nat :=
  if c ≠ 32 then acc ++ [lo1 c] else if acc ≠ [] ∧ acc.getLast? ≠ some 32 then acc ++ [32] else acc
def lfin (acc : List Nat) : List Nat := if acc.getLast? = some 32 then acc.dropLast else acc
def lfold (s : List Nat) : List Nat := lfin (s.foldl lstep [])
def ds__law_folded (g : G) : DSp := fun xs M Q _ => ∃ s : List Nat, xs = [.str s] ∧ s.length ≤ 1000 ∧ asc s = true ∧ Q (.str (lfold s)) M
abbrev sp__law_folded (g : G) : Sp := lift 1 (ds__law_folded g)
def spots (m w : List Nat) : List Nat := (List.range (m.length + 1)).filter fun k => decide ((m.drop k).take w.length = w)
def lrankF (m w : List Nat) : Option Nat :=
  match spots m w with
  | [] => none
  | 0 :: _ => if m.length = w.length then some 0 else some 1
  | i :: r => if ((i :: r).filter fun k => decide (m[k - 1]? = some 32)) = [] then some 3 else some 2
def ds__law_rank (g : G) : DSp := fun xs M Q _ => ∃ row query : List Nat, xs = [.str row, .str query] ∧ row.length ≤ 1000 ∧ query.length ≤ 1000 ∧ asc row = true ∧ asc query = true ∧ Q (optD (lrankF (lfold row) (lfold query))) M
abbrev sp__law_rank (g : G) : Sp := lift 2 (ds__law_rank g)
theorem lstep_len (acc : List Nat) (c : Nat) : (lstep acc c).length ≤ acc.length + 1 := by
  unfold lstep
  split
  · simp
  · split
    · simp
    · omega
theorem foldl_lstep_len : ∀ (s acc : List Nat), (s.foldl lstep acc).length ≤ acc.length + s.length
  | [], acc => by simp
  | c :: s, acc => by
    have h := foldl_lstep_len s (lstep acc c)
    have h2 := lstep_len acc c
    rw [List.foldl_cons, List.length_cons]
    omega
theorem lfold_len (s : List Nat) : (lfold s).length ≤ s.length := by
  unfold lfold lfin
  have h := foldl_lstep_len s []
  simp only [List.length_nil] at h
  split
  · rw [List.length_dropLast]
    omega
  · omega
abbrev nm__law_refusal : List Str := ["_law_caught", "_law_kinds"]
def t__law_refusal (g : G) (W : WX) : TS := (tSeq (tIfS (tTest (tOp (rIsNo) (tVar 0) (tC .non))) (tRet (tTup (tCons (tC (.str (S [111, 107]))) tNil))) tNext) (tSeq (tAsg (tLst (tCons (tCB (rIsX g.K) (tCons (tVar 0) (tCons (tC (.ref g.cT)) tNil))) (tCons (tCB (rIsX g.K) (tCons (tVar 0) (tCons (tC (.ref g.cN)) tNil))) (tCons (tCB (rIsX g.K) (tCons (tVar 0) (tCons (tC (.ref g.cA)) tNil))) tNil)))) (gName 1)) (tSeq (tIfS (tOr (tTest (tOp (rNeA g.K) (tBM g.K "list" (rCntF g.K) (tVar 1) (tCons (tC (.bl true)) tNil)) (tC (.int 1)))) (tNot (tB (tCB (rIsX g.K) (tCons (tVar 0) (tCons (tC (.ty "ValueError")) tNil)))))) (tRet (tTup (tCons (tC (.str (S [119, 114, 111, 110, 103]))) tNil))) tNext) (tRet (tTup (tCons (tC (.str (S [114, 101, 102, 117, 115, 101, 100]))) (tCons (tOp (rIx g.K) (tLst (tCons (tC (.str (S [116, 101, 120, 116]))) (tCons (tC (.str (S [110, 117, 109, 98, 101, 114]))) (tCons (tC (.str (S [97, 115, 107]))) tNil)))) (tBM g.K "list" (rIndex g.K) (tVar 1) (tCons (tC (.bl true)) tNil))) tNil)))))))
abbrev nm__law_folded : List Str := ["_law_text", "_law_found", "_law_sign"]
def t__law_folded (g : G) (W : WX) : TS := (tSeq (tAsg (tC (.str (S []))) (gName 1)) (tSeq (tFor (iStr (tVar 0)) (gName 2) (tIfS (tTest (tOp (rNeA g.K) (tVar 2) (tC (.str (S [32]))))) (tAsg (tOp (rAddA g.K) (tVar 1) (tBM0 g.K "str" (rLower) (tVar 2))) (gName 1)) (tIfS (tAnd (tTest (tOp (rNeA g.K) (tVar 1) (tC (.str (S []))))) (tTest (tOp (rNeA g.K) (tOp (rIx g.K) (tVar 1) (tUn rNegA (tC (.int 1)))) (tC (.str (S [32])))))) (tAsg (tOp (rAddA g.K) (tVar 1) (tC (.str (S [32])))) (gName 1)) tNext))) (tRet (tIf (tTest (tOp (rEqA g.K) (tSl (rSlA g.K) (tVar 1) (tPart (tUn rNegA (tC (.int 1)))) tNoPart) (tC (.str (S [32]))))) (tSl (rSlA g.K) (tVar 1) tNoPart (tPart (tUn rNegA (tC (.int 1))))) (tVar 1)))))

theorem xw_cls {g : G} (hx : XF g) (w : Xw) : ExcC g.K (w.cls g) := by
  cases w
  · exact hx.eT
  · exact hx.eN
  · exact hx.eA
def Xw.at : Xw → Nat
  | .text => 0
  | .number => 1
  | .ask => 2
theorem d__law_refusal {g : G} (hx : XF g) : Keeps 1 nm__law_refusal (t__law_refusal g) (ds__law_refusal g) := by
  rintro W xs M Q E - h
  rcases h with ⟨rfl, q⟩ | ⟨w, rfl, q⟩
  · show lS W (t__law_refusal g W) [some .non, none] M _ _
    unfold t__law_refusal
    walk_at "d"
    exact br_t (by walk_at "d"; exact q)
  · show lS W (t__law_refusal g W) [some (.exc (w.cls g)), none] M _ _
    unfold t__law_refusal
    walk_at "d"
    refine br_f ?_
    walk_at "d"
    refine l_lst ?_
    walk_at "d"
    have k1 : PySem.W.kitOne g.K (.ref (w.cls g)) (.ref g.cT) = some (decide (w.at = 0)) := by
      cases w
      · exact hx.kTT
      · exact hx.kNT
      · exact hx.kAT
    have k2 : PySem.W.kitOne g.K (.ref (w.cls g)) (.ref g.cN) = some (decide (w.at = 1)) := by
      cases w
      · exact hx.kTN
      · exact hx.kNN
      · exact hx.kAN
    have k3 : PySem.W.kitOne g.K (.ref (w.cls g)) (.ref g.cA) = some (decide (w.at = 2)) := by
      cases w
      · exact hx.kTA
      · exact hx.kNA
      · exact hx.kAA
    have k4 : PySem.W.kitOne g.K (.ref (w.cls g)) (.type "ValueError") = some true := by
      cases w
      · exact hx.vT
      · exact hx.vN
      · exact hx.vA
    refine c_isX (xw_cls hx w) k1 ?_
    walk_at "d"
    refine c_isX (xw_cls hx w) k2 ?_
    walk_at "d"
    refine c_isX (xw_cls hx w) k3 ?_
    walk_at "d"
    refine l_bmL ?_
    walk_at "d"
    refine ⟨⟨_, isL_lst⟩, ?_⟩
    walk_at "d"
    refine m_count isL_lst rfl rfl ?_
    have ec : (List.countP (fun e => eqF e (.bl true)) [D.bl (decide (w.at = 0)), .bl (decide (w.at = 1)), .bl (decide (w.at = 2))]) = 1 := by cases w <;> rfl
    rw [ec]
    walk_at "d"
    refine br_f ?_
    walk_at "d"
    refine c_isXt (xw_cls hx w) k4 ?_
    walk_at "d"
    refine br_f ?_
    walk_at "d"
    refine l_lst ?_
    walk_at "d"
    refine l_bmL ?_
    walk_at "d"
    refine ⟨⟨_, isL_lst⟩, ?_⟩
    walk_at "d"
    refine m_index (j := w.at) (e := .bl true) isL_lst rfl rfl (by cases w <;> rfl) rfl (fun m e' hm he => ?_) ?_
    · cases w with
      | text => exact absurd hm (Nat.not_lt_zero _)
      | number =>
        have : m = 0 := by
          have : m < 1 := hm
          omega
        subst this
        cases he
        rfl
      | ask =>
        have : m = 0 ∨ m = 1 := by
          have : m < 2 := hm
          omega
        rcases this with rfl | rfl <;> (cases he; rfl)
    · refine r_ix (d := .str w.sign) (.inl isL_lst) (by cases w <;> rfl) ?_
      walk_at "d"
      exact q
theorem asc_one {c : Nat} {s : List Nat} (h : asc s = true) (hc : c ∈ s) : asc [c] = true := by
  unfold asc at h ⊢
  rw [List.all_eq_true] at h
  rw [List.all_cons, h c hc]
  rfl
theorem lstep_of (acc : List Nat) (c : Nat) : lstep acc c = if c ≠ 32 then acc ++ [lo1 c] else if acc ≠ [] ∧ acc.getLast? ≠ some 32 then acc ++ [32] else acc := rfl
theorem atI_neg1 {α : Type} {xs : List α} {x : α} (h : xs.getLast? = some x) : atI xs (-1) = some x := by
  have hne : xs ≠ [] := fun z => by
    rw [z] at h
    cases h
  have e : xs = xs.dropLast ++ [x] := by
    have h1 := List.getLast?_eq_getLast hne
    rw [h] at h1
    have h2 : xs.getLast hne = x := (Option.some.inj h1).symm
    rw [← h2]
    exact (List.dropLast_concat_getLast hne).symm
  rw [e]
  exact atI_last _ _
theorem last_cut {s : List Nat} : cutL s (some (-1)) none = match s.getLast? with | some c => [c] | none => [] := by
  rw [cut_last]
  cases h : s.getLast? with
  | none =>
    have : s = [] := List.getLast?_eq_none_iff.mp h
    subst this
    rfl
  | some c =>
    have hne : s ≠ [] := fun z => by
      rw [z] at h
      cases h
    have h1 := List.getLast?_eq_getLast hne
    rw [h] at h1
    have h2 : s.getLast hne = c := (Option.some.inj h1).symm
    show s.drop (s.length - 1) = [c]
    have e : s = s.dropLast ++ [c] := by
      rw [← h2]
      exact (List.dropLast_concat_getLast hne).symm
    have hlen : s.length - 1 = s.dropLast.length := (List.length_dropLast).symm
    rw [hlen]
    conv => lhs; rw [e]
    rw [List.dropLast_concat]
    exact List.drop_left
theorem d__law_folded {g : G} : Keeps 1 nm__law_folded (t__law_folded g) (ds__law_folded g) := by
  rintro W xs M Q E - ⟨s, rfl, hl, ha, q⟩
  show lS W (t__law_folded g W) [some (.str s), none, none] M _ _
  unfold t__law_folded
  walk_at "d"
  refine s_for ?_
  walk_at "d"
  refine ⟨fun i ρ M' => M' = M ∧ ∃ y, ρ = [some (.str s), some (.str ((s.take i).foldl lstep [])), y], ⟨rfl, none, rfl⟩, fun _ _ _ _ => trivial, ?_, ?_⟩
  · rintro i ρ' M' d hd ⟨rfl, y, rfl⟩
    rw [List.getElem?_map] at hd
    obtain ⟨c, hc, rfl⟩ := Option.map_eq_some_iff.mp hd
    have et : (s.take (i + 1)).foldl lstep [] = lstep ((s.take i).foldl lstep []) c := by
      rw [List.take_add_one, hc, List.foldl_append]
      rfl
    have hacc : ((s.take i).foldl lstep []).length ≤ 1000 := by
      have h1 := foldl_lstep_len (s.take i) []
      rw [List.length_take] at h1
      simp only [List.length_nil] at h1
      omega
    generalize (s.take i).foldl lstep [] = acc at et hacc
    rw [lstep_of] at et
    have hmem := List.mem_of_getElem? hc
    walk_at "d"
    refine ⟨fun h => ?_, fun h => ?_⟩
    · have hn : c ≠ 32 := fun z => by
        subst z
        simp at h
      rw [if_pos hn] at et
      walk_at "d"
      refine m_lower (asc_one ha hmem) (by simp) ?_
      refine r_addS (by simp only [List.map_cons, List.map_nil, List.length_cons, List.length_nil]; omega) ?_
      walk_at "d"
      rw [et]
      exact ⟨_, rfl⟩
    · have hn : c = 32 := by
        simp at h
        exact h
      rw [if_neg (fun z => z hn)] at et
      walk_at "d"
      refine ⟨fun h2 => ?_, fun h2 => ?_⟩
      · have hne : acc ≠ [] := by simpa using h2
        obtain ⟨x, hx⟩ : ∃ x, acc.getLast? = some x := ⟨acc.getLast hne, List.getLast?_eq_getLast hne⟩
        walk_at "d"
        refine r_ixS (by omega) (atI_neg1 hx) ?_
        walk_at "d"
        refine ⟨fun h3 => ?_, fun h3 => ?_⟩
        · have hx2 : x ≠ 32 := fun z => by
            subst z
            simp at h3
          rw [if_pos ⟨hne, by rw [hx]; exact fun z => hx2 (Option.some.inj z)⟩] at et
          walk_at "d"
          refine r_addS (by simp only [List.length_cons, List.length_nil]; omega) ?_
          walk_at "d"
          rw [et]
          exact ⟨_, rfl⟩
        · have hx2 : x = 32 := by
            simp at h3
            exact h3
          rw [if_neg (fun z => z.2 (by rw [hx, hx2]))] at et
          walk_at "d"
          rw [et]
          exact ⟨_, rfl⟩
      · have hne : acc = [] := by simpa using h2
        walk_at "d"
        rw [if_neg (fun z => z.1 hne)] at et
        rw [et]
        exact ⟨_, rfl⟩
  · rintro ρ' M' ⟨rfl, y, rfl⟩
    rw [List.length_map, List.take_length]
    have hq : lfin (s.foldl lstep []) = lfold s := rfl
    have hacc : (s.foldl lstep []).length ≤ 1000 := by
      have h1 := foldl_lstep_len s []
      simp only [List.length_nil] at h1
      omega
    rw [← hq] at q
    generalize s.foldl lstep [] = acc at q hacc
    unfold lfin at q
    walk_at "d"
    refine sl_S (by omega) ?_
    walk_at "d"
    rw [last_cut]
    refine ⟨fun h => ?_, fun h => ?_⟩
    · have h1 : acc.getLast? = some 32 := by
        cases e : acc.getLast? with
        | none =>
          rw [e] at h
          cases h
        | some c =>
          rw [e] at h
          simp at h
          rw [h]
      rw [if_pos h1] at q
      walk_at "d"
      refine sl_S (by omega) ?_
      rw [show (-(1 : Int)) = -1 from rfl, cut_butlast]
      exact q
    · have h1 : acc.getLast? ≠ some 32 := fun z => by
        rw [z] at h
        simp at h
      rw [if_neg h1] at q
      walk_at "d"
      exact q

/-! ### the law's folding is the program's -/
theorem lo1_32 {c : Nat} : lo1 c = 32 ↔ c = 32 := by
  unfold lo1
  constructor
  · intro h
    split at h <;> omega
  · intro h
    subst h
    rfl
/-- words that are whole, then a part of a word -/
def jn (ws : List (List Nat)) (u : List Nat) : List Nat := (ws.map fun w => w ++ [32]).flatten ++ u
theorem jn_snoc (ws : List (List Nat)) (u v : List Nat) : jn (ws ++ [u]) v = jn ws u ++ [32] ++ v := by
  unfold jn
  rw [List.map_append, List.flatten_append]
  simp
theorem jn_app (ws : List (List Nat)) (u v : List Nat) : jn ws (u ++ v) = jn ws u ++ v := by
  unfold jn
  rw [List.append_assoc]
theorem join_jn : ∀ (ws : List (List Nat)) (u : List Nat), TL.joinL [32] (ws ++ [u]) = jn ws u
  | [], u => by simp [TL.joinL, jn]
  | [w], u => by simp [TL.joinL, jn]
  | w :: v :: ws, u => by
    have ih := join_jn (v :: ws) u
    have e : TL.joinL [32] (w :: v :: ws ++ [u]) = w ++ ([32] ++ TL.joinL [32] (v :: ws ++ [u])) := rfl
    rw [e, ih]
    unfold jn
    simp
def clean (u : List Nat) : Prop := ∀ c ∈ u, c ≠ 32
theorem jn_last {ws : List (List Nat)} {u : List Nat} (h : u ≠ []) (hc : clean u) : jn ws u ≠ [] ∧ (jn ws u).getLast? ≠ some 32 := by
  have e : u = u.dropLast ++ [u.getLast h] := (List.dropLast_concat_getLast h).symm
  unfold jn
  rw [e, ← List.append_assoc]
  constructor
  · simp
  · rw [List.getLast?_concat]
    exact fun z => hc _ (List.getLast_mem h) (Option.some.inj z)
theorem jn_end {ws : List (List Nat)} (h : ws ≠ []) : ∃ ws' w, ws = ws' ++ [w] ∧ jn ws [] = jn ws' w ++ [32] := by
  refine ⟨ws.dropLast, ws.getLast h, (List.dropLast_concat_getLast h).symm, ?_⟩
  conv => lhs; rw [← List.dropLast_concat_getLast h]
  rw [jn_snoc, List.append_nil]
abbrev ne' (w : List Nat) : Bool := decide (w ≠ [])
theorem lstep_word {acc : List Nat} {c : Nat} (h : c ≠ 32) : lstep acc c = acc ++ [lo1 c] := if_pos h
theorem lfold_go : ∀ (s : List Nat) (ws : List (List Nat)) (u : List Nat), clean u → (∀ w ∈ ws, w ≠ []) →
    lfin (s.foldl lstep (jn ws u)) = TL.joinL [32] (ws ++ (TL.spl [32] 0 u (s.map lo1)).filter ne')
  | [], ws, u, hu, hw => by
    rw [List.foldl_nil, List.map_nil, TL.spl_nil]
    by_cases h : u = []
    · subst h
      rw [show List.filter ne' [[]] = [] from rfl, List.append_nil]
      by_cases hn : ws = []
      · subst hn
        rfl
      · obtain ⟨ws', w, e, e2⟩ := jn_end hn
        rw [e2, e, join_jn]
        unfold lfin
        rw [List.getLast?_concat, if_pos rfl, List.dropLast_concat]
    · have e : List.filter ne' [u] = [u] := by simp [ne', h]
      rw [e, join_jn]
      unfold lfin
      rw [if_neg (jn_last h hu).2]
  | c :: s, ws, u, hu, hw => by
    rw [List.foldl_cons, List.map_cons]
    by_cases hc : c = 32
    · subst hc
      have hp : TL.pre [32] (lo1 32 :: s.map lo1) = true := rfl
      have e : TL.spl [32] 0 u (lo1 32 :: s.map lo1) = u :: TL.spl [32] 0 [] (s.map lo1) := TL.spl_hit hp
      rw [e, List.filter_cons]
      by_cases h : u = []
      · subst h
        have e1 : lstep (jn ws []) 32 = jn ws [] := by
          unfold lstep
          rw [if_neg (fun z => z rfl)]
          by_cases hn : ws = []
          · subst hn
            rfl
          · obtain ⟨ws', w, e, e2⟩ := jn_end hn
            rw [if_neg (fun z => z.2 (by rw [e2, List.getLast?_concat]))]
        rw [e1, lfold_go s ws [] (fun c hc => nomatch hc) hw]
        rfl
      · have e1 : lstep (jn ws u) 32 = jn (ws ++ [u]) [] := by
          unfold lstep
          rw [if_neg (fun z => z rfl), if_pos (jn_last h hu), jn_snoc, List.append_nil]
        rw [e1, lfold_go s (ws ++ [u]) [] (fun c hc => nomatch hc) (fun w hm => by
          rcases List.mem_append.mp hm with q | q
          · exact hw w q
          · rw [List.mem_singleton.mp q]
            exact h)]
        have h2 : ne' u = true := decide_eq_true h
        rw [if_pos h2, List.append_assoc]
        rfl
    · have hl : lo1 c ≠ 32 := fun z => hc (lo1_32.mp z)
      have hp : TL.pre [32] (lo1 c :: s.map lo1) = false := TL.pre_of_head _ _ hl
      have e : TL.spl [32] 0 u (lo1 c :: s.map lo1) = TL.spl [32] 0 (u ++ [lo1 c]) (s.map lo1) := TL.spl_miss hp
      rw [e, lstep_word hc, ← jn_app]
      exact lfold_go s ws (u ++ [lo1 c]) (fun x hx => by
        rcases List.mem_append.mp hx with q | q
        · exact hu x q
        · rw [List.mem_singleton.mp q]
          exact hl) hw
theorem lfold_fold (s : List Nat) : lfold s = fold s := by
  have h := lfold_go s [] [] (fun c hc => nomatch hc) (fun w hw => nomatch hw)
  exact h
theorem fold_len' (s : List Nat) : (fold s).length ≤ s.length := by
  rw [← lfold_fold]
  exact lfold_len s
/-! ### the law's ranks are the program's -/
theorem isAt_dec {m w : List Nat} {k : Nat} (hk : k ≤ m.length) : isAt w m k = decide ((m.drop k).take w.length = w) := by
  unfold isAt
  by_cases h : (m.drop k).take w.length = w
  · rw [decide_eq_true h]
    have e := congrArg List.length h
    rw [List.length_take, List.length_drop] at e
    rw [decide_eq_true (by omega), h]
    simp
  · rw [decide_eq_false h]
    have : ((m.drop k).take w.length == w) = false := by simpa using h
    rw [this, Bool.and_false]
theorem spots_isAt {m w : List Nat} : spots m w = (List.range (m.length + 1)).filter (isAt w m) := by
  unfold spots
  refine List.filter_congr fun k hk => ?_
  have := List.mem_range.mp hk
  rw [isAt_dec (by omega)]
theorem find_filter {p : Nat → Bool} : ∀ l : List Nat, l.find? p = (l.filter p).head?
  | [] => rfl
  | a :: l => by
    rw [List.find?_cons, List.filter_cons]
    cases h : p a with
    | true => simp
    | false =>
      rw [find_filter l]
      rfl
theorem findAt_spots {m w : List Nat} : findAt w m = (spots m w).head? := by
  rw [spots_isAt]
  exact find_filter _
theorem mem_spots {m w : List Nat} {k : Nat} : k ∈ spots m w ↔ k ≤ m.length ∧ isAt w m k = true := by
  rw [spots_isAt, List.mem_filter, List.mem_range]
  constructor
  · rintro ⟨h1, h2⟩
    exact ⟨by omega, h2⟩
  · rintro ⟨h1, h2⟩
    exact ⟨by omega, h2⟩
theorem isAt_le {m w : List Nat} {k : Nat} (h : isAt w m k = true) : k + w.length ≤ m.length := by
  unfold isAt at h
  rw [Bool.and_eq_true] at h
  exact of_decide_eq_true h.1
theorem hasT_iff {m w : List Nat} : hasT w m = true ↔ ∃ k, isAt w m k = true := by
  unfold hasT findAt
  rw [List.find?_isSome]
  constructor
  · rintro ⟨k, _, h⟩
    exact ⟨k, h⟩
  · rintro ⟨k, h⟩
    have := isAt_le h
    exact ⟨k, List.mem_range.mpr (by omega), h⟩
theorem isAt_cons {m w : List Nat} {c k : Nat} : isAt (c :: w) m k = true ↔ m[k]? = some c ∧ isAt w m (k + 1) = true := by
  unfold isAt
  simp only [Bool.and_eq_true, decide_eq_true_eq, beq_iff_eq, List.length_cons]
  constructor
  · rintro ⟨h1, h2⟩
    have hk : k < m.length := by omega
    rw [List.drop_eq_getElem_cons hk, List.take_succ_cons] at h2
    injection h2 with h3 h4
    refine ⟨by rw [List.getElem?_eq_getElem hk, h3], by omega, h4⟩
  · rintro ⟨h1, h2, h3⟩
    obtain ⟨hk, h4⟩ := List.getElem?_eq_some_iff.mp h1
    refine ⟨by omega, ?_⟩
    rw [List.drop_eq_getElem_cons hk, List.take_succ_cons, h3, h4]
theorem isAt0_eq {m w : List Nat} (h : isAt w m 0 = true) : m.take w.length = w := by
  unfold isAt at h
  rw [Bool.and_eq_true, beq_iff_eq, List.drop_zero] at h
  exact h.2
theorem lrank_rank (m w : List Nat) : lrankF m w = rankF m w := by
  unfold lrankF rankF
  have hf := findAt_spots (m := m) (w := w)
  cases e : spots m w with
  | nil =>
    rw [e] at hf
    have hn : hasT w m = false := by
      unfold hasT
      rw [hf]
      rfl
    have hno : ∀ k, isAt w m k ≠ true := fun k hk => by
      have := hasT_iff.mpr ⟨k, hk⟩
      rw [hn] at this
      cases this
    have h1 : m ≠ w := fun z => by
      subst z
      refine hno 0 ?_
      unfold isAt
      simp
    have h2 : ¬ hasT (32 :: w) m = true := fun z => by
      obtain ⟨k, hk⟩ := hasT_iff.mp z
      exact hno _ (isAt_cons.mp hk).2
    have h3 : ¬ hasT w m = true := by
      rw [hn]
      exact Bool.false_ne_true
    show (none : Option Nat) = _
    rw [if_neg h1, if_neg (hno 0), if_neg h2, if_neg h3]
  | cons i r =>
    rw [e] at hf
    have hi := mem_spots.mp (by rw [e]; exact List.mem_cons_self : i ∈ spots m w)
    have hhas : hasT w m = true := hasT_iff.mpr ⟨i, hi.2⟩
    have hmem : ∀ k, isAt w m k = true → k ∈ i :: r := fun k hk => by
      rw [← e]
      exact mem_spots.mpr ⟨by have := isAt_le hk; omega, hk⟩
    cases i with
    | zero =>
      show (if m.length = w.length then some 0 else some 1) = _
      have h0 := isAt0_eq hi.2
      by_cases hl : m.length = w.length
      · rw [if_pos hl]
        have : m = w := by
          rw [← h0, ← hl, List.take_length]
        rw [if_pos this]
      · rw [if_neg hl, if_neg (fun z => hl (by rw [z])), if_pos hi.2]
    | succ i =>
      show (if (((i + 1) :: r).filter fun k => decide (m[k - 1]? = some 32)) = [] then some 3 else some 2) = _
      have hn0 : ¬ isAt w m 0 = true := fun z => by
        have h1 : findAt w m = some 0 := find_some (by omega) z (fun k hk => absurd hk (Nat.not_lt_zero _))
        rw [h1] at hf
        cases hf
      have h1 : m ≠ w := fun z => by
        subst z
        refine hn0 ?_
        unfold isAt
        simp
      have hiff : hasT (32 :: w) m = true ↔ ¬ (((i + 1) :: r).filter fun k => decide (m[k - 1]? = some 32)) = [] := by
        rw [hasT_iff]
        constructor
        · rintro ⟨k, hk⟩ z
          obtain ⟨h2, h3⟩ := isAt_cons.mp hk
          have h4 : k + 1 ∈ ((i + 1) :: r).filter fun k => decide (m[k - 1]? = some 32) := List.mem_filter.mpr ⟨hmem _ h3, decide_eq_true h2⟩
          rw [z] at h4
          cases h4
        · intro z
          obtain ⟨k, hk⟩ := List.exists_mem_of_ne_nil _ z
          obtain ⟨h2, h3⟩ := List.mem_filter.mp hk
          have h4 := of_decide_eq_true h3
          rw [← e] at h2
          have h5 := mem_spots.mp h2
          cases k with
          | zero => exact absurd h5.2 hn0
          | succ k => exact ⟨k, isAt_cons.mpr ⟨h4, h5.2⟩⟩
      rw [if_neg h1, if_neg hn0]
      by_cases h2 : (((i + 1) :: r).filter fun k => decide (m[k - 1]? = some 32)) = []
      · rw [if_pos h2, if_neg (fun z => hiff.mp z h2), if_pos hhas]
      · rw [if_neg h2, if_pos (hiff.mpr h2)]

theorem spots_pos {m w : List Nat} {i : Nat} {r : List Nat} (h : spots m w = (i + 1) :: r) : ∀ k ∈ spots m w, k ≠ 0 := by
  intro k hk z
  subst z
  have h0 := (mem_spots.mp hk).2
  have h1 : findAt w m = some 0 := find_some (by omega) h0 (fun k hk => absurd hk (Nat.not_lt_zero _))
  rw [findAt_spots, h] at h1
  cases h1
abbrev nm__law_rank : List Str := ["_law_row_here", "_law_query_here", "_law_mine", "_law_wanted", "_law_spots", "_law_k"]
def t__law_rank (g : G) (W : WX) : TS := (tSeq (tAsg (tCallS (sp__law_folded g) (WE W) (tCons (tVar 0) tNil)) (gName 2)) (tSeq (tAsg (tCallS (sp__law_folded g) (WE W) (tCons (tVar 1) tNil)) (gName 3)) (tSeq (tAsg (tLc (iRng1 (tCons (tOp (rAddA g.K) (tCB (rLenA g.K) (tCons (tVar 2) tNil)) (tC (.int 1))) tNil)) (gName 5) (tTest (tOp (rEqA g.K) (tSl (rSlA g.K) (tVar 2) (tPart (tVar 5)) (tPart (tOp (rAddA g.K) (tVar 5) (tCB (rLenA g.K) (tCons (tVar 3) tNil))))) (tVar 3))) (tVar 5) [5]) (gName 4)) (tSeq (tIfS (tTest (tOp (rEqA g.K) (tVar 4) (tLst tNil))) (tRet (tC .non)) tNext) (tSeq (tIfS (tTest (tOp (rEqA g.K) (tOp (rIx g.K) (tVar 4) (tC (.int 0))) (tC (.int 0)))) (tRet (tIf (tTest (tOp (rEqA g.K) (tCB (rLenA g.K) (tCons (tVar 2) tNil)) (tCB (rLenA g.K) (tCons (tVar 3) tNil)))) (tC (.int 0)) (tC (.int 1)))) tNext) (tRet (tIf (tTest (tOp (rNeA g.K) (tLc (iList g.K (tVar 4)) (gName 5) (tTest (tOp (rEqA g.K) (tOp (rIx g.K) (tVar 2) (tOp (rSubA) (tVar 5) (tC (.int 1)))) (tC (.str (S [32]))))) (tVar 5) [5]) (tLst tNil))) (tC (.int 2)) (tC (.int 3)))))))))

theorem asc_lfold {s : List Nat} : (lfold s).length ≤ s.length := lfold_len s
theorem nat_cast_dec {a b : Nat} : decide ((a : Int) = (b : Int)) = decide (a = b) := by
  by_cases h : a = b
  · subst h
    simp
  · rw [decide_eq_false h, decide_eq_false (by omega)]
theorem filterMap_int (p : Nat → Bool) : ∀ l : List Nat, (l.map fun (i : Nat) => D.int (0 + (i : Int))).filterMap (fun d => match d with | .int k => if p k.toNat = true then some (D.int k) else none | _ => none) = (l.filter p).map fun (i : Nat) => D.int (i : Int)
  | [] => rfl
  | k :: l => by
    rw [List.map_cons, List.filterMap_cons, List.filter_cons, filterMap_int p l]
    simp only [Int.zero_add, Int.toNat_natCast]
    by_cases h : p k = true
    · rw [if_pos h, if_pos h]
      rfl
    · rw [if_neg h, if_neg h]
theorem filterMap_int2 (p : Nat → Bool) : ∀ l : List Nat, (l.map fun (i : Nat) => D.int (i : Int)).filterMap (fun d => match d with | .int k => if p k.toNat = true then some (D.int k) else none | _ => none) = (l.filter p).map fun (i : Nat) => D.int (i : Int)
  | [] => rfl
  | k :: l => by
    rw [List.map_cons, List.filterMap_cons, List.filter_cons, filterMap_int2 p l]
    simp only [Int.toNat_natCast]
    by_cases h : p k = true
    · rw [if_pos h, if_pos h]
      rfl
    · rw [if_neg h, if_neg h]
theorem okD_nil : okD (.lst []) = true := by decide +kernel
theorem pl_ints : ∀ l : List Nat, plains (l.map fun (i : Nat) => D.int (i : Int)) = true
  | [] => rfl
  | _ :: l => by
    rw [List.map_cons, plains, pl_ints l]
    rfl
theorem ok_ints (l : List Nat) : okD (.lst (l.map fun (i : Nat) => D.int (i : Int))) = true := by
  unfold okD
  rw [plain, pl_ints l, Bool.true_and]
  unfold SeqAt.shaped
  rw [toPy]
  have h1 : PyData.canLayAll0 (toPys (l.map fun (i : Nat) => D.int (i : Int))) = true := by
    induction l with
    | nil => rfl
    | cons a l ih =>
      rw [List.map_cons, toPys, PyData.canLayAll0, ih]
      rfl
  have h2 : PyData.depthAll (toPys (l.map fun (i : Nat) => D.int (i : Int))) = 0 := by
    induction l with
    | nil => rfl
    | cons a l ih =>
      rw [List.map_cons, toPys, PyData.depthAll, ih (by
        rw [List.map_cons, toPys, PyData.canLayAll0, Bool.and_eq_true] at h1
        exact h1.2)]
      rfl
  rw [PyData.canLay0, h1, PyData.depth, h2]
  rfl
theorem eqv_nil (ds : List D) : PyData.eqv (toPy (.lst ds)) (toPy (.lst [])) = ds.isEmpty := by
  cases ds with
  | nil => rfl
  | cons d ds =>
    rw [toPy, toPys, toPy, toPys, PyData.eqv, PyData.eqvAll]
    rfl
theorem isEmpty_map {α β : Type} (f : α → β) (l : List α) : (l.map f).isEmpty = l.isEmpty := by cases l <;> rfl
theorem d__law_rank {g : G} : Keeps 2 nm__law_rank (t__law_rank g) (ds__law_rank g) := by
  rintro W xs M Q E - ⟨row, query, rfl, hl, hl2, ha, ha2, q⟩
  show lS W (t__law_rank g W) [some (.str row), some (.str query), none, none, none, none] M _ _
  unfold t__law_rank
  walk_at "d"
  refine ⟨hl, ha, ?_⟩
  walk_at "d"
  refine ⟨hl2, ha2, ?_⟩
  walk_at "d"
  have hm := lfold_len row
  have hw := lfold_len query
  have hlrank : lrankF (lfold row) (lfold query) = lrankF (lfold row) (lfold query) := rfl
  generalize lfold row = m at *
  generalize lfold query = w at *
  refine l_lcP (wip_name (by decide)) ?_
  walk_at "d"
  refine ⟨by omega, by omega, fun d => match d with | .int k => if (decide ((m.drop k.toNat).take w.length = w)) = true then some (D.int k) else none | _ => none, ?_, fun _ _ => trivial, ?_, ?_⟩
  · unfold rngD
    rw [List.length_map, List.length_range]
    omega
  · intro d hd M' _
    obtain ⟨k, hk, rfl⟩ := List.mem_map.mp hd
    have hk := List.mem_range.mp hk
    rw [Int.zero_add]
    walk_at "d"
    refine sl_S (by omega) ?_
    rw [show (k : Int) + (w.length : Int) = ((k + w.length : Nat) : Int) by omega, cut_mid]
    walk_at "d"
    refine ⟨fun h => ?_, fun h => ⟨rfl, ?_⟩⟩
    · walk_at "d"
      simp only [Int.toNat_natCast]
      rw [if_pos h]
    · simp only [Int.toNat_natCast]
      rw [if_neg (by rw [h]; exact Bool.false_ne_true)]
  · unfold rngD
    rw [filterMap_int (fun k => decide ((m.drop k).take w.length = w)), show ((m.length : Int) + 1).toNat = m.length + 1 by omega]
    have hsp : (List.range (m.length + 1)).filter (fun k => decide ((m.drop k).take w.length = w)) = spots m w := rfl
    rw [hsp]
    unfold lrankF at q
    have hbound : ∀ k ∈ spots m w, k ≤ m.length := fun k hk => by
      rw [← hsp] at hk
      have := List.mem_range.mp (List.mem_filter.mp hk).1
      omega
    have hspl : (spots m w).length ≤ m.length + 1 := by
      rw [← hsp]
      have h1 := List.length_filter_le (fun k => decide ((m.drop k).take w.length = w)) (List.range (m.length + 1))
      rw [List.length_range] at h1
      exact h1
    have hpos : ∀ i r, spots m w = (i + 1) :: r → ∀ k ∈ spots m w, k ≠ 0 := fun i r => spots_pos
    generalize spots m w = sp at q hbound hspl hpos
    walk_at "d"
    refine l_lst ?_
    walk_at "d"
    refine r_eqD asD_self asD_self (ok_ints sp) okD_nil ?_
    rw [eqv_nil, isEmpty_map]
    walk_at "d"
    cases sp with
    | nil =>
      refine br_t ?_
      walk_at "d"
      exact q
    | cons i r =>
      refine br_f ?_
      walk_at "d"
      refine r_ix (d := .int (i : Int)) (.inl isL_lst) (at_nat (j := 0) rfl) ?_
      walk_at "d"
      cases i with
      | zero =>
        refine ⟨fun _ => ?_, fun z => absurd z (by simp)⟩
        walk_at "d"
        refine ⟨fun h => ?_, fun h => ?_⟩
        · rw [nat_cast_dec] at h
          have q : Q (optD (if m.length = w.length then some 0 else some 1)) M := q
          rw [if_pos (of_decide_eq_true h)] at q
          walk_at "d"
          exact q
        · rw [nat_cast_dec] at h
          have q : Q (optD (if m.length = w.length then some 0 else some 1)) M := q
          rw [if_neg (of_decide_eq_false h)] at q
          walk_at "d"
          exact q
      | succ i =>
        have q : Q (optD (if (((i + 1) :: r).filter fun k => decide (m[k - 1]? = some 32)) = [] then some 3 else some 2)) M := q
        refine ⟨fun z => absurd z (by simp; omega), fun _ => ?_⟩
        walk_at "d"
        refine l_lcP (wip_name (by decide)) ?_
        walk_at "d"
        refine ⟨_, isL_lst, fun d => match d with | .int k => if (decide (m[k.toNat - 1]? = some 32)) = true then some (D.int k) else none | _ => none, by rw [List.length_map]; omega, fun _ _ => isL_lst, ?_, ?_⟩
        · intro d hd M' _
          obtain ⟨k, hk, rfl⟩ := List.mem_map.mp hd
          have hkl := hbound k hk
          have hk0 := hpos i r rfl k hk
          obtain ⟨j, rfl⟩ : ∃ j, k = j + 1 := ⟨k - 1, by omega⟩
          have hj : j < m.length := by omega
          walk_at "d"
          refine r_ixS (c := m[j]) (by omega) (by rw [show ((j + 1 : Nat) : Int) - 1 = (j : Int) by omega]; exact at_nat (List.getElem?_eq_getElem hj)) ?_
          walk_at "d"
          have ee : decide ([m[j]] = [32]) = decide (m[j + 1 - 1]? = some 32) := by
            rw [Nat.add_sub_cancel, List.getElem?_eq_getElem hj]
            by_cases h : m[j] = 32
            · rw [decide_eq_true (by rw [h]), decide_eq_true (by rw [h])]
            · rw [decide_eq_false (by simpa using h), decide_eq_false (by simpa using h)]
          rw [ee]
          refine ⟨fun h => ?_, fun h => ⟨rfl, ?_⟩⟩
          · walk_at "d"
            simp only [Int.toNat_natCast]
            rw [if_pos h]
          · simp only [Int.toNat_natCast]
            rw [if_neg (by rw [h]; exact Bool.false_ne_true)]
        · rw [filterMap_int2 (fun k => decide (m[k - 1]? = some 32))]
          walk_at "d"
          refine l_lst ?_
          walk_at "d"
          refine r_neD asD_self asD_self (ok_ints _) okD_nil ?_
          rw [eqv_nil, isEmpty_map]
          walk_at "d"
          generalize List.filter (fun k => decide (m[k - 1]? = some 32)) ((i + 1) :: r) = fl at q
          cases fl with
          | nil =>
            refine br_f ?_
            walk_at "d"
            exact q
          | cons x l =>
            refine br_t ?_
            walk_at "d"
            exact q

/-! ### rows and queries that are drawn -/
/-- no q in it -/
def noq (r : List Nat) : Bool := r.all fun c => decide (c ≠ 113)
theorem noq_app {a b : List Nat} (h : noq a = true) (h2 : noq b = true) : noq (a ++ b) = true := by
  unfold noq
  rw [List.all_append]
  exact Bool.and_eq_true_iff.mpr ⟨h, h2⟩
def isRow (r : List Nat) : Prop := okT 15 r = true ∧ (∃ c ∈ r, c ≠ 32) ∧ noq r = true
def isQuery (q : List Nat) : Prop := okT 8 q = true
def ds__law_row (g : G) : DSp := fun xs M Q _ => ∃ (ns : List Int) (t : Addr) (n : Nat), xs = [scr g.K ns, .ref t] ∧ n + 10 < 90000 ∧ Twn M t n ∧ ∀ r M', isRow r → Tw M t (n + 7) M' → Q (.str r) M'
abbrev sp__law_row (g : G) : Sp := lift 2 (ds__law_row g)
def ds__law_query (g : G) : DSp := fun xs M Q _ => ∃ (ns : List Int) (t : Addr) (n : Nat), xs = [scr g.K ns, .ref t] ∧ n + 10 < 90000 ∧ Twn M t n ∧ ∀ r M', isQuery r → Tw M t (n + 5) M' → Q (.str r) M'
abbrev sp__law_query (g : G) : Sp := lift 2 (ds__law_query g)
theorem okT_mono {m n : Nat} {s : List Nat} (h : okT m s = true) (k : m ≤ n) : okT n s = true := by
  unfold okT at h ⊢
  rw [Bool.and_eq_true] at h ⊢
  exact ⟨decide_eq_true (Nat.le_trans (of_decide_eq_true h.1) k), h.2⟩
theorem okT_app {m n : Nat} {a b : List Nat} (h : okT m a = true) (h2 : okT n b = true) : okT (m + n) (a ++ b) = true := by
  unfold okT at h h2 ⊢
  rw [Bool.and_eq_true] at h h2 ⊢
  have h3 := of_decide_eq_true h.1
  have h4 := of_decide_eq_true h2.1
  refine ⟨decide_eq_true (by rw [List.length_append]; omega), ?_⟩
  rw [List.all_append, h.2, h2.2]
  rfl
theorem okT_all {m : Nat} {s : List Nat} (h : okT m s = true) : ∀ c ∈ s, okC c = true := by
  unfold okT at h
  rw [Bool.and_eq_true, List.all_eq_true] at h
  exact h.2
theorem okT_of {m : Nat} {s : List Nat} (h : s.length ≤ m) (h2 : ∀ c ∈ s, okC c = true) : okT m s = true := by
  unfold okT
  rw [Bool.and_eq_true, List.all_eq_true]
  exact ⟨decide_eq_true h, h2⟩
theorem mem_strs {d : D} {ps : List (List Nat)} (h : d ∈ ps.map D.str) : ∃ p ∈ ps, d = .str p := by
  obtain ⟨p, hp, e⟩ := List.mem_map.mp h
  exact ⟨p, hp, e.symm⟩
def rowPs : List (List Nat) := [[97], [97, 98], [65, 98], [98], [97, 98, 99], [98, 97], [99, 32]]
def gapPs : List (List Nat) := [[], [32], [32, 32]]
def qryPs : List (List Nat) := [[97], [98], [65], [97, 98], [32], [99]]
theorem rowPs_ok : ∀ p ∈ rowPs, okT 3 p = true ∧ p.head? ≠ some 32 ∧ p ≠ [] := by decide
theorem gapPs_ok : ∀ p ∈ gapPs, okT 2 p = true := by decide
theorem qryPs_ok : ∀ p ∈ qryPs, okT 2 p = true := by decide
theorem row_sign {p : List Nat} (h : p.head? ≠ some 32 ∧ p ≠ []) : ∃ c ∈ p, c ≠ 32 := by
  cases p with
  | nil => exact absurd rfl h.2
  | cons c r => exact ⟨c, List.mem_cons_self, fun z => h.1 (by rw [z]; rfl)⟩
theorem lstep_keeps {acc : List Nat} {c : Nat} (h : ∃ x ∈ acc, x ≠ 32) : ∃ x ∈ lstep acc c, x ≠ 32 := by
  obtain ⟨x, hx, hn⟩ := h
  unfold lstep
  split
  · exact ⟨x, List.mem_append_left _ hx, hn⟩
  · split
    · exact ⟨x, List.mem_append_left _ hx, hn⟩
    · exact ⟨x, hx, hn⟩
theorem foldl_keeps : ∀ (s acc : List Nat), (∃ x ∈ acc, x ≠ 32) → ∃ x ∈ s.foldl lstep acc, x ≠ 32
  | [], _, h => h
  | _ :: s, _, h => foldl_keeps s _ (lstep_keeps h)
theorem lfold_ne {s : List Nat} (h : ∃ c ∈ s, c ≠ 32) : lfold s ≠ [] := by
  have hk : ∃ x ∈ s.foldl lstep [], x ≠ 32 := by
    obtain ⟨c, hc, hn⟩ := h
    obtain ⟨a, b, rfl⟩ := List.append_of_mem hc
    rw [List.foldl_append, List.foldl_cons]
    refine foldl_keeps b _ ?_
    rw [lstep_word hn]
    exact ⟨lo1 c, List.mem_append_right _ List.mem_cons_self, fun z => hn (lo1_32.mp z)⟩
  unfold lfold
  obtain ⟨x, hx, hn⟩ := hk
  intro z
  unfold lfin at z
  split at z
  · rename_i h32
    have hne : s.foldl lstep [] ≠ [] := fun e => by
      rw [e] at hx
      cases hx
    have e := List.dropLast_concat_getLast hne
    rw [z, List.nil_append] at e
    rw [← e] at hx
    have h1 := List.mem_singleton.mp hx
    rw [List.getLast?_eq_getLast hne] at h32
    exact hn (h1.trans (Option.some.inj h32))
  · rw [z] at hx
    cases hx

/-! ### a law's promise, and its ends -/
def ds_lawK (K : PySem.W.Frag) : DSp := fun xs M Q _ => ∃ ns, xs = [scr K ns] ∧ ∀ M', Q (.bl true) M'
abbrev sp_lawK (K : PySem.W.Frag) : Sp := lift 1 (ds_lawK K)
abbrev ds_law (g : G) : DSp := ds_lawK g.K
abbrev sp_law (g : G) : Sp := sp_lawK g.K
theorem law_start {K : PySem.W.Frag} {H : Hp} {a : Addr} {ns : List Int} (h : SqL K H a (ns.map V.int)) : sp_lawK K [.ref a] H (fun v _ => v = .bl true) (fun _ _ _ => False) := by
  have e : imm H (fun _ => none) = H := by
    funext b
    rfl
  refine ⟨fun _ => none, [scr K ns], fun d _ => d = .bl true, fun _ _ => False, ⟨fun a c q => nomatch q⟩, .cons (scr_rp (by rw [e]; exact h)) .nil, rfl, ⟨ns, rfl, fun _ => rfl⟩, fun v d H' M' q _ _ r => ?_, fun c H' M' q _ _ => q.elim⟩
  subst q
  cases r
  rfl
theorem law_none {P : Program} {w : World} {H : Hp} {s s' : Shared} {e : Value} (h : L2.CX P w [] H s (fun _ _ _ => False) e s') : False := by
  obtain ⟨_, _, _, _, _, _, _, _, _, _, _, _, z⟩ := h
  exact z
abbrev nm__law_row : List Str := ["_law_script", "_law_town", "_law_found", "_law_k"]
def t__law_row (g : G) (W : WX) : TS := (tSeq (tAsg (tC (.str (S []))) (gName 2)) (tSeq (tFor (iRng1 (tCons (tOp (rAddA g.K) (tC (.int 1)) (tCallS (sp__law_draw g) (WE W) (tCons (tVar 0) (tCons (tVar 1) (tCons (tC (.int 3)) tNil))))) tNil)) (gName 3) (tSeq (tAsg (tOp (rAddA g.K) (tVar 2) (tCallS (sp__law_pick g) (WE W) (tCons (tVar 0) (tCons (tVar 1) (tCons (tLst (tCons (tC (.str (S [97]))) (tCons (tC (.str (S [97, 98]))) (tCons (tC (.str (S [65, 98]))) (tCons (tC (.str (S [98]))) (tCons (tC (.str (S [97, 98, 99]))) (tCons (tC (.str (S [98, 97]))) (tCons (tC (.str (S [99, 32]))) tNil)))))))) tNil))))) (gName 2)) (tAsg (tOp (rAddA g.K) (tVar 2) (tCallS (sp__law_pick g) (WE W) (tCons (tVar 0) (tCons (tVar 1) (tCons (tLst (tCons (tC (.str (S []))) (tCons (tC (.str (S [32]))) (tCons (tC (.str (S [32, 32]))) tNil)))) tNil))))) (gName 2)))) (tRet (tVar 2))))
abbrev nm__law_query : List Str := ["_law_script", "_law_town", "_law_found", "_law_k"]
def t__law_query (g : G) (W : WX) : TS := (tSeq (tAsg (tC (.str (S []))) (gName 2)) (tSeq (tFor (iRng1 (tCons (tCallS (sp__law_draw g) (WE W) (tCons (tVar 0) (tCons (tVar 1) (tCons (tC (.int 5)) tNil)))) tNil)) (gName 3) (tAsg (tOp (rAddA g.K) (tVar 2) (tCallS (sp__law_pick g) (WE W) (tCons (tVar 0) (tCons (tVar 1) (tCons (tLst (tCons (tC (.str (S [97]))) (tCons (tC (.str (S [98]))) (tCons (tC (.str (S [65]))) (tCons (tC (.str (S [97, 98]))) (tCons (tC (.str (S [32]))) (tCons (tC (.str (S [99]))) tNil))))))) tNil))))) (gName 2))) (tRet (tVar 2))))

theorem rowPs_noq : ∀ p ∈ rowPs, noq p = true := by decide
theorem gapPs_noq : ∀ p ∈ gapPs, noq p = true := by decide
theorem d__law_row {g : G} : Keeps 2 nm__law_row (t__law_row g) (ds__law_row g) := by
  rintro W xs M Q E - ⟨ns, t, n, rfl, hn, ht, q⟩
  show lS W (t__law_row g W) [some (scr g.K ns), some (.ref t), none, none] M _ _
  unfold t__law_row
  walk_at "d"
  refine s_for ?_
  walk_at "d"
  refine ⟨ns, t, 3, n, rfl, by omega, by omega, ht, fun d M1 hd w => ?_⟩
  walk_at "d"
  refine ⟨by omega, by omega, fun i ρ M' => ∃ (s : List Nat) (y : Option D), ρ = [some (scr g.K ns), some (.ref t), some (.str s), y] ∧ okT (5 * i) s = true ∧ (0 < i → ∃ c ∈ s, c ≠ 32) ∧ noq s = true ∧ Tw M t (n + 1 + 2 * i) M', ⟨[], none, rfl, rfl, fun z => absurd z (Nat.lt_irrefl _), rfl, w⟩, fun _ _ _ _ => trivial, ?_, ?_⟩
  · rintro i ρ' M' d2 hd2 ⟨s, y, rfl, hs, hc, hq, w2⟩
    have hi : i < d + 1 := by
      have h1 := (List.getElem?_eq_some_iff.mp hd2).1
      unfold rngD at h1
      rw [List.length_map, List.length_range] at h1
      omega
    have hsl := okT_len hs
    walk_at "d"
    refine l_lst ?_
    walk_at "d"
    refine ⟨ns, t, .lst (rowPs.map D.str), rowPs.map D.str, n + 1 + 2 * i, rfl, .inl rfl, by decide, by omega, w2.twn, fun d3 M3 hd3 w3 => ?_⟩
    obtain ⟨p, hp, rfl⟩ := mem_strs hd3
    obtain ⟨p1, p2⟩ := rowPs_ok p hp
    have hpl := okT_len p1
    refine r_addS (by omega) ?_
    walk_at "d"
    refine l_lst ?_
    walk_at "d"
    refine ⟨ns, t, .lst (gapPs.map D.str), gapPs.map D.str, n + 1 + 2 * i + 1, rfl, .inl rfl, by decide, by omega, w3.twn, fun d4 M4 hd4 w4 => ?_⟩
    obtain ⟨p', hp', rfl⟩ := mem_strs hd4
    have p3 := gapPs_ok p' hp'
    have hpl' := okT_len p3
    refine r_addS (by rw [List.length_append]; omega) ?_
    walk_at "d"
    refine ⟨_, _, rfl, ?_, fun _ => ?_, noq_app (noq_app hq (rowPs_noq p hp)) (gapPs_noq p' hp'), (w2.trans (w3.trans w4)).mono (by omega)⟩
    · exact okT_mono (okT_app (okT_app hs p1) p3) (by omega)
    · obtain ⟨c, hc1, hc2⟩ := row_sign p2
      exact ⟨c, List.mem_append_left _ (List.mem_append_right _ hc1), hc2⟩
  · rintro ρ' M' ⟨s, y, rfl, hs, hc, hq, w2⟩
    have hlen : (rngD 0 (1 + (d : Int)).toNat).length = d + 1 := by
      unfold rngD
      rw [List.length_map, List.length_range]
      omega
    rw [hlen] at hs hc w2
    walk_at "d"
    exact q s M' ⟨okT_mono hs (by omega), hc (by omega), hq⟩ (w2.mono (by omega))
theorem d__law_query {g : G} : Keeps 2 nm__law_query (t__law_query g) (ds__law_query g) := by
  rintro W xs M Q E - ⟨ns, t, n, rfl, hn, ht, q⟩
  show lS W (t__law_query g W) [some (scr g.K ns), some (.ref t), none, none] M _ _
  unfold t__law_query
  walk_at "d"
  refine s_for ?_
  walk_at "d"
  refine ⟨ns, t, 5, n, rfl, by omega, by omega, ht, fun d M1 hd w => ?_⟩
  walk_at "d"
  refine ⟨by omega, by omega, fun i ρ M' => ∃ (s : List Nat) (y : Option D), ρ = [some (scr g.K ns), some (.ref t), some (.str s), y] ∧ okT (2 * i) s = true ∧ Tw M t (n + 1 + i) M', ⟨[], none, rfl, rfl, w⟩, fun _ _ _ _ => trivial, ?_, ?_⟩
  · rintro i ρ' M' d2 hd2 ⟨s, y, rfl, hs, w2⟩
    have hi : i < d := by
      have h1 := (List.getElem?_eq_some_iff.mp hd2).1
      unfold rngD at h1
      rw [List.length_map, List.length_range] at h1
      omega
    have hsl := okT_len hs
    walk_at "d"
    refine l_lst ?_
    walk_at "d"
    refine ⟨ns, t, .lst (qryPs.map D.str), qryPs.map D.str, n + 1 + i, rfl, .inl rfl, by decide, by omega, w2.twn, fun d3 M3 hd3 w3 => ?_⟩
    obtain ⟨p, hp, rfl⟩ := mem_strs hd3
    have p1 := qryPs_ok p hp
    have hpl := okT_len p1
    refine r_addS (by omega) ?_
    walk_at "d"
    exact ⟨_, _, rfl, okT_mono (okT_app hs p1) (by omega), (w2.trans w3).mono (by omega)⟩
  · rintro ρ' M' ⟨s, y, rfl, hs, w2⟩
    have hlen : (rngD 0 (d : Int).toNat).length = d := by
      unfold rngD
      rw [List.length_map, List.length_range]
      omega
    rw [hlen] at hs w2
    walk_at "d"
    exact q s M' (okT_mono hs (by omega)) (w2.mono (by omega))

/-! ### stores: what they compute -/
abbrev Tri := Nat × List Nat × List Nat
def triD (t : Tri) : D := .tup [.int (t.1 : Int), .str t.2.1, .str t.2.2]
def triF (q r : List Nat) : Option Tri := (rankP r q).map fun k => (k, fold r, r)
def leT (a b : Tri) : Bool := leD (triD a) (triD b)
def sortT (ts : List Tri) : List Tri := ts.mergeSort leT
/-- all rows that fit, the best ahead -/
def allBest (ss : List (List Nat)) (q : List Nat) : List (List Nat) := (sortT (ss.filterMap (triF q))).map (·.2.2)
def bestF (ss : List (List Nat)) (q : List Nat) (n : Nat) : List (List Nat) := (allBest ss q).take n
theorem triOk (ts : List Tri) : SortOk (ts.map triD) := SortOk.of (fun _ => rfl) (fun _ _ => rfl) (.inl fun b => ⟨_, _, rfl⟩) (fun b => by show _ ≤ 60; simp [triD, toPy, toPys, PyData.depth, PyData.depthAll])
theorem srt_tri (ts : List Tri) : srt (ts.map triD) = (sortT ts).map triD := srt_map triD ts
/-! the promises -/
def ds_look_many (g : G) : DSp := fun xs M Q E => ∃ m : Int, xs = [.int m] ∧ ((1 ≤ m ∧ m ≤ 6) → Q .non M) ∧ (¬ (1 ≤ m ∧ m ≤ 6) → E g.cN M)
abbrev sp_look_many (g : G) : Sp := lift 1 (ds_look_many g)
def rowsOk (ss : List (List Nat)) : Prop := (∀ s ∈ ss, okT 20 s = true) ∧ ss.length ≤ 1000
def ds_best (g : G) : DSp := fun xs M Q _ => ∃ (x : D) (ss : List (List Nat)) (q : List Nat) (n : Nat), xs = [x, .str q, .int (n : Int)] ∧ isL M x (ss.map D.str) ∧ rowsOk ss ∧ okT 12 q = true ∧ Q (.lst ((bestF ss q n).map D.str)) M
abbrev sp_best (g : G) : Sp := lift 3 (ds_best g)
/-- the store at a: its rows, at r -/
structure IsSt (g : G) (M : Mh) (a r : Addr) (ss : List (List Nat)) : Prop where
  ob : M a = some (.ins g.cS ["rows"] [.ref r])
  rs : M r = some (.lst (ss.map D.str))
theorem IsSt.ne {g : G} {M : Mh} {a r : Addr} {ss : List (List Nat)} (h : IsSt g M a r ss) : a ≠ r := fun z => by
  have h1 := h.ob
  rw [z, h.rs] at h1
  cases h1
def ds_Store___init__ (g : G) : DSp := fun xs M Q _ => ∃ a : Addr, xs = [.ref a] ∧ M a = some (.ins g.cS [] []) ∧ ∀ r, M r = none → Q .non (upM (upM M r (.lst [])) a (.ins g.cS ["rows"] [.ref r]))
abbrev sp_Store___init__ (g : G) : Sp := lift 1 (ds_Store___init__ g)
def addF (ss : List (List Nat)) (row : List Nat) : Option Xw := if okT 20 row = true ∧ fold row ≠ [] ∧ row ∉ ss then (if ss.length = 12 then some .number else none) else some .text
def ds_Store_add (g : G) : DSp := fun xs M Q E => ∃ (a r : Addr) (ss : List (List Nat)) (row : List Nat), xs = [.ref a, .str row] ∧ row.length ≤ 1000 ∧ ss.length ≤ 1000 ∧ IsSt g M a r ss ∧ (addF ss row = none → Q .non (upM M r (.lst ((ss ++ [row]).map D.str)))) ∧ ∀ w, addF ss row = some w → E (w.cls g) M
abbrev sp_Store_add (g : G) : Sp := lift 2 (ds_Store_add g)
def ds_Store_remove (g : G) : DSp := fun xs M Q E => ∃ (a r : Addr) (ss : List (List Nat)) (row : List Nat), xs = [.ref a, .str row] ∧ IsSt g M a r ss ∧ (row ∈ ss → Q .non (upM M r (.lst ((ss.erase row).map D.str)))) ∧ (row ∉ ss → E g.cT M)
abbrev sp_Store_remove (g : G) : Sp := lift 2 (ds_Store_remove g)
def ds_Store_all_rows (g : G) : DSp := fun xs M Q _ => ∃ (a r : Addr) (ss : List (List Nat)), xs = [.ref a] ∧ IsSt g M a r ss ∧ ∀ l, M l = none → Q (.ref l) (upM M l (.lst (ss.map D.str)))
abbrev sp_Store_all_rows (g : G) : Sp := lift 1 (ds_Store_all_rows g)
def ansF (q : List Nat) (m : Int) : Option Xw := if 1 ≤ m ∧ m ≤ 6 then (if okT 12 q = true then none else some .text) else some .number
/-- (rows, is_all) -/
def ansD (ss : List (List Nat)) (q : List Nat) (m : Nat) : D := .tup [.lst ((bestF ss q m).map D.str), .bl (decide ((allBest ss q).length ≤ m))]
def ds_Store_answer (g : G) : DSp := fun xs M Q E => ∃ (a r : Addr) (ss : List (List Nat)) (q : List Nat) (m : Int), xs = [.ref a, .str q, .int m] ∧ q.length ≤ 1000 ∧ rowsOk ss ∧ IsSt g M a r ss ∧ (ansF q m = none → Q (ansD ss q m.toNat) M) ∧ ∀ w, ansF q m = some w → E (w.cls g) M
abbrev sp_Store_answer (g : G) : Sp := lift 3 (ds_Store_answer g)
abbrev nm_look_many : List Str := ["many"]
def t_look_many (g : G) (W : WX) : TS := (tIfS (tNot (tTest (tChain (rLeA) (rLeA) (tC (.int 1)) (tVar 0) (tC (.int 6))))) (tRaiseC g.cN W) tNext)
abbrev nm_best : List Str := ["rows", "query", "many", "some", "row", "fits", "small", "one"]
def t_best (g : G) (W : WX) : TS := (tSeq (tAsg (tLc (iList g.K (tVar 0)) (gName 4) tYes (tTup (tCons (tCallS (sp_rank g) (WE W0) (tCons (tVar 4) (tCons (tVar 1) tNil))) (tCons (tCallS (sp_folded g) (WE W0) (tCons (tVar 4) tNil)) (tCons (tVar 4) tNil)))) [4]) (gName 3)) (tRet (tSl (rSlA g.K) (tLc (iList g.K (tCB (rSortA g.K) (tCons (tLc (iList g.K (tVar 3)) (gName 7) (tTest (tOp (rNotNo) (tOp (rIx g.K) (tVar 7) (tC (.int 0))) (tC .non))) (tVar 7) [7]) tNil))) (gTup g.K 3 (gCons (gName 5) (gCons (gName 6) (gCons (gName 4) gNil)))) tYes (tVar 4) [5, 6, 4]) tNoPart (tPart (tVar 2)))))
abbrev nm_Store___init__ : List Str := ["self"]
def t_Store___init__ (g : G) (W : WX) : TS := (sFld g.K (tVar 0) (tLst tNil) "rows")
abbrev nm_Store_add : List Str := ["self", "row"]
def t_Store_add (g : G) (W : WX) : TS := (tSeq (tDrop (tCallS (sp_look_text g) (WE W) (tCons (tVar 1) (tCons (tC (.int 20)) tNil)))) (tSeq (tIfS (tOr (tTest (tOp (rEqA g.K) (tCallS (sp_folded g) (WE W) (tCons (tVar 1) tNil)) (tC (.str (S []))))) (tTest (tOp (rInA g.K) (tVar 1) (tFld g.K (tVar 0) "rows")))) (tRaiseC g.cT W) tNext) (tSeq (tIfS (tTest (tOp (rEqA g.K) (tCB (rLenA g.K) (tCons (tFld g.K (tVar 0) "rows") tNil)) (tC (.int 12)))) (tRaiseC g.cN W) tNext) (tDrop (tBM g.K "list" (rAppend) (tFld g.K (tVar 0) "rows") (tCons (tVar 1) tNil))))))
abbrev nm_Store_remove : List Str := ["self", "row"]
def t_Store_remove (g : G) (W : WX) : TS := (tSeq (tIfS (tTest (tOp (rNinA g.K) (tVar 1) (tFld g.K (tVar 0) "rows"))) (tRaiseC g.cT W) tNext) (tDrop (tBM g.K "list" (rRemF) (tFld g.K (tVar 0) "rows") (tCons (tVar 1) tNil))))
abbrev nm_Store_all_rows : List Str := ["self"]
def t_Store_all_rows (g : G) (W : WX) : TS := (tRet (tCB (rListA g.K) (tCons (tFld g.K (tVar 0) "rows") tNil)))
abbrev nm_Store_answer : List Str := ["self", "query", "many", "some"]
def t_Store_answer (g : G) (W : WX) : TS := (tSeq (tDrop (tCallS (sp_look_many g) (WE W) (tCons (tVar 2) tNil))) (tSeq (tDrop (tCallS (sp_look_text g) (WE W) (tCons (tVar 1) (tCons (tC (.int 12)) tNil)))) (tSeq (tAsg (tCallS (sp_best g) (WE W) (tCons (tFld g.K (tVar 0) "rows") (tCons (tVar 1) (tCons (tCB (rLenA g.K) (tCons (tFld g.K (tVar 0) "rows") tNil)) tNil)))) (gName 3)) (tRet (tTup (tCons (tSl (rSlA g.K) (tVar 3) tNoPart (tPart (tVar 2))) (tCons (tOp (rLeA) (tCB (rLenA g.K) (tCons (tVar 3) tNil)) (tVar 2)) tNil)))))))

local macro_rules | `(tactic| walk_at "d1") => `(tactic| first
  | with_reducible refine br_nt ?_
  | with_reducible refine br_nf ?_
  | with_reducible refine l_revA ?_
  | with_reducible refine g_cons ?_
  | with_reducible refine g_nil ?_
  | with_reducible refine g_tup rfl ?_)
theorem d_look_many {g : G} : Keeps 1 nm_look_many (t_look_many g) (ds_look_many g) := by
  rintro W xs M Q E - ⟨m, rfl, q1, q2⟩
  show lS W (t_look_many g W) [some (.int m)] M _ _
  unfold t_look_many
  walk_at "d"
  refine ⟨fun h => ?_, fun h => ?_⟩
  · have h1 := of_decide_eq_true h
    walk_at "d"
    refine ⟨fun h2 => ?_, fun h2 => ?_⟩
    · walk_at "d"
      refine q2 fun h3 => ?_
      have h4 : ¬ m ≤ 6 := by simpa using h2
      omega
    · walk_at "d"
      have h4 : m ≤ 6 := by simpa using h2
      exact q1 ⟨h1, h4⟩
  · walk_at "d"
    refine q2 fun h3 => ?_
    have := of_decide_eq_false h
    omega
theorem isL.kn {M M' : Mh} {x : D} {ds : List D} (h : isL M x ds) (k : KnM M M') : isL M' x ds := by
  rcases h with rfl | ⟨a, rfl, m⟩
  · exact isL_lst
  · exact isL_ref (k _ _ m)
theorem filterMap_tri (q : List Nat) : ∀ ss : List (List Nat), ((ss.map D.str).filterMap fun d => match d with | .str r => some (D.tup [optD (rankP r q), .str (fold r), .str r]) | _ => none) = ss.map fun r => D.tup [optD (rankP r q), .str (fold r), .str r]
  | [] => rfl
  | s :: ss => by
    have ih := filterMap_tri q ss
    rw [List.map_cons, List.filterMap_cons]
    show D.tup [optD (rankP s q), .str (fold s), .str s] :: _ = _
    rw [ih]
    rfl
theorem filterMap_fit (q : List Nat) : ∀ ss : List (List Nat), ((ss.map fun r => D.tup [optD (rankP r q), .str (fold r), .str r]).filterMap fun d => match d with | .tup (.non :: _) => none | d => some d) = (ss.filterMap (triF q)).map triD
  | [] => rfl
  | s :: ss => by
    have ih := filterMap_fit q ss
    rw [List.map_cons, List.filterMap_cons, List.filterMap_cons]
    unfold triF
    cases rankP s q with
    | none => exact ih
    | some k => exact congrArg (_ :: ·) ih
def rowOf : D → Option D
  | .tup [_, _, r] => some r
  | _ => none
theorem filterMap_row : ∀ ts : List Tri, ((ts.map triD).filterMap rowOf) = (ts.map (·.2.2)).map D.str
  | [] => rfl
  | t :: ts => congrArg (_ :: ·) (filterMap_row ts)
theorem d_best {g : G} : Keeps 3 nm_best (t_best g) (ds_best g) := by
  rintro W xs M Q E - ⟨x, ss, q, n, rfl, hx, hss, hq, qq⟩
  show lS W (t_best g W) [some x, some (.str q), some (.int n), none, none, none, none, none] M _ _
  have hql := okT_len hq
  unfold t_best
  walk_at "d"
  refine l_lcP (wip_name (by decide)) ?_
  walk_at "d"
  refine ⟨_, hx, fun d => match d with | .str r => some (.tup [optD (rankP r q), .str (fold r), .str r]) | _ => none, by rw [List.length_map]; have := hss.2; omega, fun M' k => hx.kn k, ?_, ?_⟩
  · intro d hd M' k
    obtain ⟨r, hr, rfl⟩ := mem_strs hd
    have hrk := hss.1 r hr
    have hrl := okT_len hrk
    walk_at "d"
    refine ⟨r, q, rfl, by omega, by omega, fun _ => ?_, fun h => absurd h (by rw [hq, hrk]; decide)⟩
    walk_at "d"
    refine ⟨by omega, fun _ => ?_, fun h => absurd h (by rw [hrk]; decide)⟩
    walk_at "d"
    rfl
  · rw [filterMap_tri]
    walk_at "d"
    refine l_lcP (wip_tup (wip_cons (wip_name (by decide)) (wip_cons (wip_name (by decide)) (wip_cons (wip_name (by decide)) wip_nil)))) ?_
    walk_at "d"
    refine l_lcP (wip_name (by decide)) ?_
    walk_at "d"
    have hlen := hss.2
    refine ⟨_, isL_lst, fun d => match d with | .tup (.non :: _) => none | d => some d, by rw [List.length_map]; omega, fun M' k => isL_lst, ?_, ?_⟩
    · intro d hd M' k
      obtain ⟨r, hr, rfl⟩ := List.mem_map.mp hd
      walk_at "d"
      refine r_ix (ds := [optD (rankP r q), .str (fold r), .str r]) (.inr rfl) rfl ?_
      walk_at "d"
      cases rankP r q with
      | none =>
        refine r_notN (x := .non) rfl ?_
        exact ⟨_, rfl, br_nf' ⟨rfl, rfl⟩⟩
      | some k =>
        refine r_notN (x := .int (k : Int)) rfl ?_
        refine ⟨_, rfl, br_nt' ?_⟩
        walk_at "d"
        rfl
    · rw [filterMap_fit]
      walk_at "d"
      refine c_sort isL_lst (triOk _) ?_
      rw [srt_tri]
      have hl2 : (sortT (ss.filterMap (triF q))).length ≤ 1000 := by
        unfold sortT
        rw [List.length_mergeSort]
        exact Nat.le_trans (List.length_filterMap_le _ _) hlen
      refine ⟨_, isL_lst, rowOf, by rw [List.length_map]; omega, fun M' k => isL_lst, ?_, ?_⟩
      · intro d hd M' k
        obtain ⟨t, ht, rfl⟩ := List.mem_map.mp hd
        unfold triD
        walk_at "d"
        rfl
      · rw [filterMap_row]
        walk_at "d"
        refine sl_L isL_lst ?_
        rw [cut_to, ← List.map_take]
        exact qq
theorem d_Store___init__ {g : G} (fl : Fld g.K g.cS ["rows"]) : Keeps 1 nm_Store___init__ (t_Store___init__ g) (ds_Store___init__ g) := by
  rintro W xs M Q E - ⟨a, rfl, ha, q⟩
  show lS W (t_Store___init__ g W) [some (.ref a)] M _ _
  unfold t_Store___init__
  refine s_fldN fl 0 rfl (ns0 := []) rfl ?_
  refine l_lstM ?_
  walk_at "d"
  intro r hr
  walk_at "d"
  have hne : a ≠ r := fun z => by
    rw [z, hr] at ha
    cases ha
  refine ⟨a, [], rfl, by rw [upM_ne hne]; exact ha, q r hr⟩
theorem okT_1000 {m : Nat} {s : List Nat} (h : okT m s = true) (hm : m ≤ 1000) : s.length ≤ 1000 := Nat.le_trans (okT_len h) hm
theorem d_Store_add {g : G} (fl : Fld g.K g.cS ["rows"]) : Keeps 2 nm_Store_add (t_Store_add g) (ds_Store_add g) := by
  rintro W xs M Q E - ⟨a, r, ss, row, rfl, hl, hl2, st, q1, q2⟩
  show lS W (t_Store_add g W) [some (.ref a), some (.str row)] M _ _
  unfold t_Store_add
  have bad : ∀ w, addF ss row = some w → E (w.cls g) M := q2
  unfold addF at q1 bad
  walk_at "d"
  refine ⟨row, 20, rfl, hl, fun h => ?_, fun h => ?_⟩
  · rw [h] at q1 bad
    walk_at "d"
    refine ⟨hl, fun _ => ?_, fun z => absurd z (by rw [h]; decide)⟩
    walk_at "d"
    refine ⟨fun h2 => ?_, fun h2 => ?_⟩
    · walk_at "d"
      exact bad .text (if_neg fun z => z.2.1 (of_decide_eq_true h2))
    · have h2' := of_decide_eq_false h2
      walk_at "d"
      refine l_fld fl 0 rfl ?_
      walk_at "d"
      refine ⟨a, _, _, rfl, st.ob, rfl, ?_⟩
      refine r_inSs (.inl (isL_ref st.rs)) ?_
      walk_at "d"
      refine ⟨fun h3 => ?_, fun h3 => ?_⟩
      · walk_at "d"
        exact bad .text (if_neg fun z => z.2.2 (of_decide_eq_true h3))
      · have h3' := of_decide_eq_false h3
        rw [if_pos ⟨rfl, h2', h3'⟩] at q1 bad
        walk_at "d"
        refine l_fld fl 0 rfl ?_
        walk_at "d"
        refine ⟨a, _, _, rfl, st.ob, rfl, ?_⟩
        refine a_nil (c_len (.inl (isL_ref st.rs)) ?_)
        walk_at "d"
        rw [List.length_map]
        walk_at "d"
        refine ⟨fun h4 => ?_, fun h4 => ?_⟩
        · walk_at "d"
          exact bad .number (if_pos (by have := of_decide_eq_true h4; omega))
        · rw [if_neg (by have := of_decide_eq_false h4; omega)] at q1
          walk_at "d"
          refine l_bmL (l_fld fl 0 rfl ?_)
          walk_at "d"
          refine ⟨a, _, _, rfl, st.ob, rfl, ⟨_, isL_ref st.rs⟩, ?_⟩
          walk_at "d"
          refine m_append st.rs (by rw [List.length_map]; omega) ?_
          have := q1 rfl
          rw [List.map_append] at this
          exact this
  · exact bad .text (if_neg fun z => absurd z.1 (by rw [h]; decide))
theorem d_Store_remove {g : G} (fl : Fld g.K g.cS ["rows"]) : Keeps 2 nm_Store_remove (t_Store_remove g) (ds_Store_remove g) := by
  rintro W xs M Q E - ⟨a, r, ss, row, rfl, st, q1, q2⟩
  show lS W (t_Store_remove g W) [some (.ref a), some (.str row)] M _ _
  unfold t_Store_remove
  walk_at "d"
  refine l_fld fl 0 rfl ?_
  walk_at "d"
  refine ⟨a, _, _, rfl, st.ob, rfl, ?_⟩
  refine r_ninSs (.inl (isL_ref st.rs)) ?_
  walk_at "d"
  refine ⟨fun h => ?_, fun h => ?_⟩
  · walk_at "d"
    exact q2 (by simpa using h)
  · have h' : row ∈ ss := by simpa using h
    walk_at "d"
    refine l_bmL (l_fld fl 0 rfl ?_)
    walk_at "d"
    refine ⟨a, _, _, rfl, st.ob, rfl, ⟨_, isL_ref st.rs⟩, ?_⟩
    walk_at "d"
    exact m_remS st.rs h' (q1 h')
theorem d_Store_all_rows {g : G} (fl : Fld g.K g.cS ["rows"]) : Keeps 1 nm_Store_all_rows (t_Store_all_rows g) (ds_Store_all_rows g) := by
  rintro W xs M Q E - ⟨a, r, ss, rfl, st, q⟩
  show lS W (t_Store_all_rows g W) [some (.ref a)] M _ _
  unfold t_Store_all_rows
  walk_at "d"
  refine l_fld fl 0 rfl ?_
  walk_at "d"
  refine ⟨a, _, _, rfl, st.ob, rfl, ?_⟩
  walk_at "d"
  exact c_listM (.inl (isL_ref st.rs)) q
theorem d_Store_answer {g : G} (fl : Fld g.K g.cS ["rows"]) : Keeps 3 nm_Store_answer (t_Store_answer g) (ds_Store_answer g) := by
  rintro W xs M Q E - ⟨a, r, ss, qu, m, rfl, hl, hss, st, q1, q2⟩
  show lS W (t_Store_answer g W) [some (.ref a), some (.str qu), some (.int m), none] M _ _
  unfold t_Store_answer
  have bad : ∀ w, ansF qu m = some w → E (w.cls g) M := q2
  unfold ansF at q1 bad
  walk_at "d"
  refine ⟨fun h => ?_, fun h => bad .number (if_neg h)⟩
  rw [if_pos h] at q1 bad
  walk_at "d"
  refine ⟨qu, 12, rfl, hl, fun h2 => ?_, fun h2 => bad .text (if_neg (by rw [h2]; decide))⟩
  rw [if_pos h2] at q1
  walk_at "d"
  refine l_fld fl 0 rfl ?_
  walk_at "d"
  refine ⟨a, _, _, rfl, st.ob, rfl, ?_⟩
  walk_at "d"
  refine l_fld fl 0 rfl ?_
  walk_at "d"
  refine ⟨a, _, _, rfl, st.ob, rfl, ?_⟩
  walk_at "d"
  refine c_len (.inl (isL_ref st.rs)) ?_
  rw [List.length_map]
  walk_at "d"
  refine ⟨_, ss, qu, ss.length, rfl, isL_ref st.rs, hss, h2, ?_⟩
  have ea : bestF ss qu ss.length = allBest ss qu := by
    unfold bestF
    refine List.take_of_length_le ?_
    unfold allBest sortT
    rw [List.length_map, List.length_mergeSort]
    exact List.length_filterMap_le _ _
  rw [ea]
  walk_at "d"
  refine sl_L isL_lst ?_
  obtain ⟨k, rfl⟩ : ∃ k : Nat, m = (k : Int) := ⟨m.toNat, by omega⟩
  rw [cut_to, ← List.map_take]
  walk_at "d"
  refine c_len (.inl isL_lst) ?_
  walk_at "d"
  have := q1 rfl
  have e : decide (((List.map D.str (allBest ss qu)).length : Int) ≤ (k : Int)) = decide ((allBest ss qu).length ≤ k) := by
    rw [List.length_map]
    by_cases z : (allBest ss qu).length ≤ k
    · rw [decide_eq_true z, decide_eq_true (by omega)]
    · rw [decide_eq_false z, decide_eq_false (by omega)]
  rw [e]
  exact this
abbrev nm__law_best : List Str := ["_law_rows_here", "_law_query_here", "_law_many", "_law_found", "_law_row_here", "_law_fits", "_law_small"]
def t__law_best (g : G) (W : WX) : TS := (tSeq (tAsg (tLst tNil) (gName 3)) (tSeq (tFor (iList g.K (tVar 0)) (gName 4) (tSeq (tAsg (tCallS (sp__law_rank g) (WE W) (tCons (tVar 4) (tCons (tVar 1) tNil))) (gName 5)) (tIfS (tTest (tOp (rNotNo) (tVar 5) (tC .non))) (tDrop (tBM g.K "list" (rAppend) (tVar 3) (tCons (tTup (tCons (tVar 5) (tCons (tCallS (sp__law_folded g) (WE W) (tCons (tVar 4) tNil)) (tCons (tVar 4) tNil)))) tNil))) tNext))) (tRet (tSl (rSlA g.K) (tLc (iList g.K (tCB (rSortA g.K) (tCons (tVar 3) tNil))) (gTup g.K 3 (gCons (gName 5) (gCons (gName 6) (gCons (gName 4) gNil)))) tYes (tVar 4) [5, 6, 4]) tNoPart (tPart (tVar 2))))))


/-! ### the law's own best -/
def ds__law_best (g : G) : DSp := fun xs M Q _ => ∃ (x : D) (ss : List (List Nat)) (q : List Nat) (n : Nat), xs = [x, .str q, .int (n : Int)] ∧ isL M x (ss.map D.str) ∧ rowsOk ss ∧ okT 12 q = true ∧ Q (.lst ((bestF ss q n).map D.str)) M
abbrev sp__law_best (g : G) : Sp := lift 3 (ds__law_best g)
theorem isL.up {M : Mh} {x : D} {ds : List D} {a : Addr} {c : Cell} (h : isL M x ds) (ha : M a = none) : isL (upM M a c) x ds := h.kn fun b c' e => by
  have n : b ≠ a := fun z => by
    rw [z, ha] at e
    cases e
  rw [upM_ne n]
  exact e
theorem take_succ_get {α : Type} {l : List α} {i : Nat} {a : α} (h : l[i]? = some a) : l.take (i + 1) = l.take i ++ [a] := by rw [List.take_add_one, h]; rfl
theorem strs_at {ss : List (List Nat)} {i : Nat} {d : D} (h : (ss.map D.str)[i]? = some d) : ∃ r, ss[i]? = some r ∧ d = .str r := by
  rw [List.getElem?_map] at h
  cases e : ss[i]? with
  | none => rw [e] at h; cases h
  | some r => rw [e] at h; exact ⟨r, rfl, (Option.some.inj h).symm⟩
theorem d__law_best {g : G} : Keeps 3 nm__law_best (t__law_best g) (ds__law_best g) := by
  rintro W xs M Q E - ⟨x, ss, q, n, rfl, hx, hss, hq, qq⟩
  show lS W (t__law_best g W) [some x, some (.str q), some (.int n), none, none, none, none] M _ _
  have hql := okT_len hq
  have hlen := hss.2
  unfold t__law_best
  walk_at "d"
  refine l_lstM ?_
  walk_at "d"
  intro l hl
  walk_at "d"
  refine s_for ?_
  walk_at "d"
  refine ⟨_, hx.up hl, fun i ρ M' => ∃ y4 y5, ρ = [some x, some (.str q), some (.int n), some (.ref l), y4, y5, none] ∧ M' = upM M l (.lst (((ss.take i).filterMap (triF q)).map triD)), ⟨none, none, rfl, rfl⟩, ?_, ?_, ?_⟩
  · rintro i ρ' M' ⟨y4, y5, rfl, rfl⟩
    exact hx.up hl
  · rintro i ρ' M' d hd ⟨y4, y5, rfl, rfl⟩
    obtain ⟨r, hr, rfl⟩ := strs_at hd
    have hrk := hss.1 r (List.mem_of_getElem? hr)
    have hrl := okT_len hrk
    have hm : ((ss.take i).filterMap (triF q)).length ≤ 1000 := by
      have h1 := List.length_filterMap_le (triF q) (ss.take i)
      have h3 : (ss.take i).length ≤ ss.length := by rw [List.length_take]; omega
      omega
    walk_at "d"
    refine ⟨r, q, rfl, by omega, by omega, okT_asc hrk, okT_asc hq, ?_⟩
    rw [lrank_rank, lfold_fold, lfold_fold]
    have et : (ss.take (i + 1)).filterMap (triF q) = (ss.take i).filterMap (triF q) ++ (triF q r).toList := by
      rw [take_succ_get hr, List.filterMap_append]
      cases h : triF q r <;> simp [h]
    walk_at "d"
    cases e : rankF (fold r) (fold q) with
    | none =>
      have e2 : triF q r = none := by
        unfold triF rankP
        rw [e]
        rfl
      refine r_notN (x := .non) rfl ?_
      refine ⟨_, rfl, br_nf' ?_⟩
      walk_at "d"
      refine ⟨_, _, rfl, ?_⟩
      rw [et, e2]
      simp
    | some k =>
      have e2 : triF q r = some (k, fold r, r) := by
        unfold triF rankP
        rw [e]
        rfl
      refine r_notN (x := .int (k : Int)) rfl ?_
      refine ⟨_, rfl, br_nt' ?_⟩
      walk_at "d"
      refine l_bmL ?_
      walk_at "d"
      refine ⟨⟨_, isL_ref upM_same⟩, ?_⟩
      walk_at "d"
      refine ⟨by omega, okT_asc hrk, ?_⟩
      rw [lfold_fold]
      walk_at "d"
      refine m_append upM_same (by rw [List.length_map]; omega) ?_
      refine ⟨_, _, rfl, ?_⟩
      rw [upM_upM, et, e2, List.map_append]
      rfl
  · rintro ρ' M' ⟨y4, y5, rfl, rfl⟩
    rw [List.length_map, List.take_length]
    have hm : (ss.filterMap (triF q)).length ≤ 1000 := Nat.le_trans (List.length_filterMap_le _ _) hlen
    refine s_frz (i := 3) (a := l) rfl upM_same ?_
    rw [deM_upM hl]
    walk_at "d"
    refine l_lcP (wip_tup (wip_cons (wip_name (by decide)) (wip_cons (wip_name (by decide)) (wip_cons (wip_name (by decide)) wip_nil)))) ?_
    walk_at "d"
    refine c_sort isL_lst (triOk _) ?_
    rw [srt_tri]
    have hl2 : (sortT (ss.filterMap (triF q))).length ≤ 1000 := by
      unfold sortT
      rw [List.length_mergeSort]
      exact hm
    refine ⟨_, isL_lst, rowOf, by rw [List.length_map]; omega, fun M' k => isL_lst, ?_, ?_⟩
    · intro d hd M' k
      obtain ⟨t, ht, rfl⟩ := List.mem_map.mp hd
      unfold triD
      walk_at "d"
      rfl
    · rw [filterMap_row]
      walk_at "d"
      refine sl_L isL_lst ?_
      rw [cut_to, ← List.map_take]
      exact qq
/-! ### any order of the rows -/
theorem cps_S (a : List Nat) : (S a).cps.toList = a := by simp [SX.S]
theorem leT_anti {a b : Tri} (h1 : leT a b = true) (h2 : leT b a = true) : a = b := by
  have e := leD_toks h1 h2
  obtain ⟨i, x, y⟩ := a
  obtain ⟨j, u, v⟩ := b
  simp only [triD, toPy, toPys, PySem.W.keyToks, PySem.W.keyToksAll, cps_S, List.cons_append, List.nil_append, List.cons.injEq, Sum.inl.injEq, Sum.inr.injEq, true_and, and_true] at e
  obtain ⟨e1, e2, e3⟩ := e
  have : i = j := by omega
  rw [this, e2, e3]
theorem sortT_perm {a b : List Tri} (p : a.Perm b) : sortT a = sortT b := sort_perm (le := leT) (fun a b c => leD_trans _ _ _) (fun a b => leD_total _ _) p fun a b _ _ => leT_anti
theorem allBest_perm {a b : List (List Nat)} (q : List Nat) (p : a.Perm b) : allBest a q = allBest b q := by
  unfold allBest
  rw [sortT_perm (p.filterMap _)]
theorem bestF_perm {a b : List (List Nat)} (q : List Nat) (n : Nat) (p : a.Perm b) : bestF a q n = bestF b q n := by
  unfold bestF
  rw [allBest_perm q p]
theorem allBest_len (ss : List (List Nat)) (q : List Nat) : (allBest ss q).length ≤ ss.length := by
  unfold allBest sortT
  rw [List.length_map, List.length_mergeSort]
  exact List.length_filterMap_le _ _
theorem allBest_mem {ss : List (List Nat)} {q r : List Nat} (h : r ∈ allBest ss q) : r ∈ ss := by
  unfold allBest sortT at h
  obtain ⟨t, ht, rfl⟩ := List.mem_map.mp h
  obtain ⟨s, hs, e⟩ := List.mem_filterMap.mp (List.mem_mergeSort.mp ht)
  unfold triF at e
  cases hr : rankP s q with
  | none => rw [hr] at e; cases e
  | some k =>
    rw [hr] at e
    have e' : (k, fold s, s) = t := Option.some.inj e
    rw [← e']
    exact hs
theorem bestF_mem {ss : List (List Nat)} {q r : List Nat} {n : Nat} (h : r ∈ bestF ss q n) : r ∈ ss := allBest_mem (List.mem_of_mem_take h)


/-! ### helpers -/
theorem rowsOk_nil : rowsOk [] := ⟨fun s h => absurd h (by simp), by simp⟩
theorem ok_ref (w : Xw) : okD (refD w) = true := by cases w <;> decide +kernel
theorem rng_at {lo : Int} {n i : Nat} {d : D} (h : (rngD lo n)[i]? = some d) : i < n ∧ d = .int (lo + (i : Int)) := by
  have h1 := (List.getElem?_eq_some_iff.mp h).1
  unfold rngD at h h1
  rw [List.length_map, List.length_range] at h1
  rw [List.getElem?_map, List.getElem?_range h1] at h
  exact ⟨h1, (Option.some.inj h).symm⟩
theorem rng_len (lo : Int) (n : Nat) : (rngD lo n).length = n := by
  unfold rngD
  rw [List.length_map, List.length_range]
theorem Twn.up {M : Mh} {t b : Addr} {n : Nat} {c : Cell} (h : Twn M t n) (hb : b ≠ t) : Twn (upM M b c) t n := by
  obtain ⟨zs, e, hl⟩ := h
  exact ⟨zs, by rw [upM_ne hb.symm]; exact e, hl⟩
theorem IsSt.tw {g : G} {M M' : Mh} {a r t : Addr} {ss : List (List Nat)} {n : Nat} (h : IsSt g M a r ss) (w : Tw M t n M') (hr : r ≠ t) : IsSt g M' a r ss := by
  have ha : a ≠ t := fun z => by
    obtain ⟨_, zs, e⟩ := w
    rw [← z, h.ob] at e
    cases e
  exact ⟨by rw [w.ne ha]; exact h.ob, by rw [w.ne hr]; exact h.rs⟩
theorem IsSt.up {g : G} {M : Mh} {a r b : Addr} {ss : List (List Nat)} {c : Cell} (h : IsSt g M a r ss) (ha : a ≠ b) (hr : r ≠ b) : IsSt g (upM M b c) a r ss := ⟨by rw [upM_ne ha]; exact h.ob, by rw [upM_ne hr]; exact h.rs⟩
theorem ne_cell {M : Mh} {a b : Addr} {c : Cell} (h : M a = some c) (hb : M b = none) : a ≠ b := fun z => by
  rw [z, hb] at h
  cases h
theorem ne_cell' {M : Mh} {a b C : Addr} {ns : List Str} {ds es : List D} (h : M a = some (.ins C ns ds)) (hb : M b = some (.lst es)) : a ≠ b := fun z => by
  rw [z, hb] at h
  cases h
theorem erase_filter {ss : List (List Nat)} (h : ss.Nodup) (x : List Nat) : ss.erase x = ss.filter fun s => decide (s ≠ x) := by
  induction ss with
  | nil => rfl
  | cons s ss ih =>
    have h1 := List.nodup_cons.mp h
    rw [List.erase_cons, List.filter_cons]
    by_cases e : s = x
    · subst e
      rw [if_pos (beq_self_eq_true s), if_neg (by simp)]
      refine (List.filter_eq_self.mpr fun a ha => ?_).symm
      exact decide_eq_true fun z => h1.1 (by rw [← z]; exact ha)
    · rw [if_neg (by simpa using e), if_pos (decide_eq_true e), ih h1.2]
def keepD (x : List Nat) : D → Option D
  | .str s => if s = x then none else some (.str s)
  | _ => none
theorem keepD_yes {x s : List Nat} (h : s ≠ x) : keepD x (.str s) = some (.str s) := if_neg h
theorem keepD_no {x : List Nat} : keepD x (.str x) = none := if_pos rfl
theorem filterMap_keep (x : List Nat) : ∀ ss : List (List Nat), (ss.map D.str).filterMap (keepD x) = (ss.filter fun s => decide (s ≠ x)).map D.str
  | [] => rfl
  | s :: ss => by
    have ih := filterMap_keep x ss
    rw [List.map_cons, List.filterMap_cons, List.filter_cons]
    by_cases h : s = x
    · subst h
      rw [keepD_no, if_neg (by simp)]
      exact ih
    · rw [keepD_yes h, if_pos (decide_eq_true h), List.map_cons]
      exact congrArg (_ :: ·) ih
def dueD : Option Xw → D
  | none => .non
  | some w => refD w
theorem ok_due (o : Option Xw) : okD (dueD o) = true := by
  cases o with
  | none => rfl
  | some w => exact ok_ref w
theorem ok_strs {ss : List (List Nat)} (h : ∀ s ∈ ss, okT 20 s = true) : okD (.lst (ss.map D.str)) = true := (OkN.strs (n := 0) fun s hs c hc => by have := okC_asc (okT_all (h s hs) c hc); omega).ok
theorem ok_ansD {ss : List (List Nat)} (h : ∀ s ∈ ss, okT 20 s = true) (q : List Nat) (m : Nat) : okD (ansD ss q m) = true :=
  (OkN.tup (n := 1) (OkN.cons (OkN.strs (n := 0) fun s hs c hc => by have := okC_asc (okT_all (h s (bestF_mem hs)) c hc); omega) (OkN.cons OkN.bl OkN.nil))).ok
theorem upM_comm {M : Mh} {a b : Addr} {x y : Cell} (h : a ≠ b) : upM (upM M a x) b y = upM (upM M b y) a x := by
  funext c
  by_cases e : c = a
  · subst e
    rw [upM_ne h, upM_same, upM_same]
  · rw [upM_ne e]
    by_cases e2 : c = b
    · subst e2
      rw [upM_same, upM_same]
    · rw [upM_ne e2, upM_ne e2, upM_ne e]
theorem Twn.fr {M : Mh} {t a : Addr} {n : Nat} (h : Twn M t n) (ha : M a = none) : a ≠ t := fun z => by
  obtain ⟨zs, e, _⟩ := h
  rw [z, e] at ha
  cases ha
/-- the town's step under a new cell -/
theorem Tw.under {M M' : Mh} {t a : Addr} {n : Nat} {c : Cell} (h : Tw (upM M a c) t n M') (ha : a ≠ t) : ∃ M1, Tw M t n M1 ∧ M' = upM M1 a c := by
  obtain ⟨⟨zs, rfl, hl⟩, ys, hy⟩ := h
  rw [upM_ne ha.symm] at hy
  exact ⟨upM M t (.lst zs), ⟨⟨zs, rfl, hl⟩, ys, hy⟩, upM_comm ha⟩
theorem up_keep {M : Mh} {a b : Addr} {c x : Cell} (h : M a = some x) (hb : M b = none) : upM M b c a = some x := by
  rw [upM_ne (ne_cell h hb)]
  exact h
theorem Twn.keep {M : Mh} {t b : Addr} {n : Nat} {c : Cell} (h : Twn M t n) (hb : M b = none) : Twn (upM M b c) t n := h.up (h.fr hb)
theorem mem_map' {α : Type} {f : α → D} {d : D} {l : List α} (h : d ∈ l.map f) : ∃ e ∈ l, d = f e := by
  obtain ⟨e, he, q⟩ := List.mem_map.mp h
  exact ⟨e, he, q.symm⟩
theorem upM_swap2 {M : Mh} {a t : Addr} {x y z : Cell} (h : a ≠ t) : upM (upM (upM M a x) t z) a y = upM (upM M t z) a y := by
  funext b
  by_cases e : b = a
  · rw [e, upM_same, upM_same]
  · rw [upM_ne e, upM_ne e]
    by_cases e2 : b = t
    · rw [e2, upM_same, upM_same]
    · rw [upM_ne e2, upM_ne e2, upM_ne e]


/-! ### shelves: what they compute -/
/-- what is kept: the query folded, the rows, whether all, when it came -/
structure Ke where
  key : List Nat
  rows : List (List Nat)
  all : Bool
  at' : Int
def keD (e : Ke) : D := .tup [.str e.key, .lst (e.rows.map D.str), .bl e.all, .int e.at']
def putK (most : Nat) (ks : List Ke) (e : Ke) : List Ke :=
  let l := (ks.filter fun x => decide (x.key ≠ e.key)) ++ [e]
  l.drop (l.length - most)
def live (term time : Int) (e : Ke) : Bool := decide (time - e.at' < term)
/-- a query (folded) can be told from it -/
def tells (key : List Nat) (e : Ke) : Bool := decide (e.key = key) || (e.all && hasT e.key key)
def srcStep (c : Ke → Bool) (found : Option Ke) (e : Ke) : Option Ke :=
  if (c e && (match found with | none => true | some f => decide (f.key.length < e.key.length))) = true then some e else found
def srcK (c : Ke → Bool) (ks : List Ke) : Option Ke := ks.foldl (srcStep c) none
def canTell (term time : Int) (key : List Nat) (e : Ke) : Bool := live term time e && tells key e
def useK (ks : List Ke) (e : Ke) : List Ke := (ks.filter fun x => decide (x.key ≠ e.key)) ++ [e]
abbrev shNs : List Str := ["most", "term", "kept"]
def shC (g : G) (most : Nat) (term : Int) (ks : List Ke) : Cell := .ins g.cH shNs [.int (most : Int), .int term, .lst (ks.map keD)]
def keOk (e : Ke) : Prop := e.key.length ≤ 1000 ∧ rowsOk e.rows
def shOk (m t : Int) : Prop := 0 ≤ m ∧ m ≤ 6 ∧ 1 ≤ t ∧ t ≤ 60
/-! the promises -/
def ds_Shelf___init__ (g : G) : DSp := fun xs M Q E => ∃ (a : Addr) (m t : Int), xs = [.ref a, .int m, .int t] ∧ M a = some (.ins g.cH [] []) ∧ (shOk m t → Q .non (upM M a (shC g m.toNat t []))) ∧ (¬ shOk m t → E g.cN M)
abbrev sp_Shelf___init__ (g : G) : Sp := lift 3 (ds_Shelf___init__ g)
def ds_Shelf_put (g : G) : DSp := fun xs M Q _ => ∃ (a : Addr) (most : Nat) (term : Int) (ks : List Ke) (q : List Nat) (x : D) (rows : List (List Nat)) (all : Bool) (time : Int),
  xs = [.ref a, .str q, x, .bl all, .int time] ∧ M a = some (shC g most term ks) ∧ isL M x (rows.map D.str) ∧ okT 20 q = true ∧ ks.length ≤ 1000 ∧ (∀ e ∈ ks, keOk e) ∧ rows.length ≤ 1000 ∧
  Q .non (upM M a (shC g most term (putK most ks ⟨fold q, rows, all, time⟩)))
abbrev sp_Shelf_put (g : G) : Sp := lift 5 (ds_Shelf_put g)
def ds_Shelf_queries (g : G) : DSp := fun xs M Q _ => ∃ (a : Addr) (most : Nat) (term : Int) (ks : List Ke) (time : Int), xs = [.ref a, .int time] ∧ M a = some (shC g most term ks) ∧ ks.length ≤ 1000 ∧
  Q (.lst (((ks.filter (live term time)).map Ke.key).map D.str)) M
abbrev sp_Shelf_queries (g : G) : Sp := lift 2 (ds_Shelf_queries g)
def optK : Option Ke → D
  | none => .non
  | some e => keD e
def ds_Shelf_source (g : G) : DSp := fun xs M Q _ => ∃ (a : Addr) (most : Nat) (term : Int) (ks : List Ke) (q : List Nat) (time : Int), xs = [.ref a, .str q, .int time] ∧ M a = some (shC g most term ks) ∧ okT 20 q = true ∧ (∀ e ∈ ks, keOk e) ∧
  Q (optK (srcK (canTell term time (fold q)) ks)) M
abbrev sp_Shelf_source (g : G) : Sp := lift 3 (ds_Shelf_source g)
def ds_Shelf_get (g : G) : DSp := fun xs M Q _ => ∃ (a : Addr) (most : Nat) (term : Int) (ks : List Ke) (q : List Nat) (n : Nat) (time : Int), xs = [.ref a, .str q, .int (n : Int), .int time] ∧ M a = some (shC g most term ks) ∧ okT 12 q = true ∧ ks.length ≤ 1000 ∧ (∀ e ∈ ks, keOk e) ∧
  (srcK (canTell term time (fold q)) ks = none → Q .non M) ∧ ∀ e, srcK (canTell term time (fold q)) ks = some e → Q (.lst ((bestF e.rows q n).map D.str)) (upM M a (shC g most term (useK ks e)))
abbrev sp_Shelf_get (g : G) : Sp := lift 4 (ds_Shelf_get g)
def ds_Shelf_clear (g : G) : DSp := fun xs M Q _ => ∃ (a : Addr) (most : Nat) (term : Int) (ks : List Ke), xs = [.ref a] ∧ M a = some (shC g most term ks) ∧ Q .non (upM M a (shC g most term []))
abbrev sp_Shelf_clear (g : G) : Sp := lift 1 (ds_Shelf_clear g)
/-! plain facts -/
theorem src_cons (c : Ke → Bool) (l : List Ke) (e : Ke) : srcK c (l ++ [e]) = srcStep c (srcK c l) e := by
  unfold srcK
  rw [List.foldl_append]
  rfl
/-- the first of the longest -/
structure SrcIs (c : Ke → Bool) (ks : List Ke) (e : Ke) (m : Nat) : Prop where
  at_ : ks[m]? = some e
  ok : c e = true
  top : ∀ (k : Nat) (e' : Ke), ks[k]? = some e' → c e' = true → e'.key.length ≤ e.key.length
  fst : ∀ (k : Nat) (e' : Ke), k < m → ks[k]? = some e' → c e' = true → e'.key.length < e.key.length
theorem src_spec (c : Ke → Bool) : ∀ n (ks : List Ke), ks.length = n → (srcK c ks = none ∧ ∀ e ∈ ks, c e = false) ∨ ∃ e m, srcK c ks = some e ∧ SrcIs c ks e m
  | 0, ks, h => by
    obtain rfl := List.length_eq_zero_iff.mp h
    exact .inl ⟨rfl, fun e h => absurd h (by simp)⟩
  | n + 1, ks, h => by
    obtain ⟨l, x, rfl⟩ : ∃ l x, ks = l ++ [x] := ⟨ks.dropLast, ks.getLast (by intro z; rw [z] at h; cases h), (List.dropLast_concat_getLast _).symm⟩
    have hl : l.length = n := by
      rw [List.length_append] at h
      simp only [List.length_cons, List.length_nil] at h
      omega
    have get_l : ∀ {k e'}, k < l.length → (l ++ [x])[k]? = some e' → l[k]? = some e' := fun {k e'} hk he => by rw [List.getElem?_append_left hk] at he; exact he
    have get_x : ∀ {k e'}, ¬ k < l.length → (l ++ [x])[k]? = some e' → k = l.length ∧ e' = x := fun {k e'} hk he => by
      rw [List.getElem?_append_right (by omega)] at he
      have h1 := (List.getElem?_eq_some_iff.mp he).1
      simp only [List.length_cons, List.length_nil] at h1
      have h2 : k - l.length = 0 := by omega
      rw [h2] at he
      exact ⟨by omega, (Option.some.inj he).symm⟩
    rw [src_cons]
    rcases src_spec c n l hl with ⟨e0, h0⟩ | ⟨e, m, e0, s⟩
    · rw [e0]
      unfold srcStep
      cases hx : c x with
      | false =>
        refine .inl ⟨rfl, fun e he => ?_⟩
        rcases List.mem_append.mp he with he | he
        · exact h0 e he
        · rw [List.mem_singleton.mp he]
          exact hx
      | true =>
        refine .inr ⟨x, l.length, rfl, by rw [List.getElem?_append_right (Nat.le_refl _), Nat.sub_self]; rfl, hx, fun k e' hk hc => ?_, fun k e' hlt hk hc => ?_⟩
        · by_cases z : k < l.length
          · have := h0 e' (List.mem_of_getElem? (get_l z hk))
            rw [this] at hc
            cases hc
          · rw [(get_x z hk).2]
            exact Nat.le_refl _
        · have := h0 e' (List.mem_of_getElem? (get_l hlt hk))
          rw [this] at hc
          cases hc
    · have hm : m < l.length := (List.getElem?_eq_some_iff.mp s.at_).1
      rw [e0]
      unfold srcStep
      by_cases hx : (c x && decide (e.key.length < x.key.length)) = true
      · rw [if_pos hx]
        rw [Bool.and_eq_true] at hx
        have h2 := of_decide_eq_true hx.2
        refine .inr ⟨x, l.length, rfl, by rw [List.getElem?_append_right (Nat.le_refl _), Nat.sub_self]; rfl, hx.1, fun k e' hk hc => ?_, fun k e' hlt hk hc => ?_⟩
        · by_cases z : k < l.length
          · have := s.top k e' (get_l z hk) hc
            omega
          · rw [(get_x z hk).2]
            exact Nat.le_refl _
        · have := s.top k e' (get_l hlt hk) hc
          omega
      · rw [if_neg hx]
        refine .inr ⟨e, m, rfl, by rw [List.getElem?_append_left hm]; exact s.at_, s.ok, fun k e' hk hc => ?_, fun k e' hlt hk hc => ?_⟩
        · by_cases z : k < l.length
          · exact s.top k e' (get_l z hk) hc
          · obtain ⟨_, rfl⟩ := get_x z hk
            rw [hc, Bool.true_and] at hx
            have := of_decide_eq_false (by simpa using hx : decide (e.key.length < e'.key.length) = false)
            omega
        · exact s.fst k e' hlt (get_l (by omega) hk) hc
theorem src_none {c : Ke → Bool} {ks : List Ke} (h : ∀ e ∈ ks, c e = false) : srcK c ks = none := by
  rcases src_spec c _ ks rfl with ⟨e, _⟩ | ⟨e, m, e0, s⟩
  · exact e
  · have := h e (List.mem_of_getElem? s.at_)
    rw [s.ok] at this
    cases this
theorem src_some {c : Ke → Bool} {ks : List Ke} {e : Ke} {m : Nat} (s : SrcIs c ks e m) : srcK c ks = some e := by
  rcases src_spec c _ ks rfl with ⟨_, h⟩ | ⟨e', m', e0, s'⟩
  · have := h e (List.mem_of_getElem? s.at_)
    rw [s.ok] at this
    cases this
  · have h1 := s.top m' e' s'.at_ s'.ok
    have h2 := s'.top m e s.at_ s.ok
    have hm : m = m' := by
      rcases Nat.lt_trichotomy m m' with z | z | z
      · have := s'.fst m e z s.at_ s.ok
        omega
      · exact z
      · have := s.fst m' e' z s'.at_ s'.ok
        omega
    subst hm
    rw [e0, ← s'.at_, s.at_]
theorem src_mem {c : Ke → Bool} {ks : List Ke} {e : Ke} (h : srcK c ks = some e) : e ∈ ks ∧ c e = true := by
  rcases src_spec c _ ks rfl with ⟨h0, _⟩ | ⟨e', m, e0, s⟩
  · rw [h0] at h
    cases h
  · rw [e0] at h
    cases h
    exact ⟨List.mem_of_getElem? s.at_, s.ok⟩
def keys (ks : List Ke) : List (List Nat) := ks.map Ke.key
/-- out of its place, and behind: as by its key -/
theorem erase_key : ∀ {ks : List Ke} {m : Nat} {e : Ke}, (keys ks).Nodup → ks[m]? = some e → ks.eraseIdx m = ks.filter fun x => decide (x.key ≠ e.key)
  | [], m, e, _, h => by simp at h
  | x :: ks, 0, e, hn, h => by
    have hx : x = e := by simpa using h
    subst hx
    have h1 := List.nodup_cons.mp (show (x.key :: keys ks).Nodup from hn)
    rw [List.eraseIdx_cons_zero, List.filter_cons, if_neg (by simp)]
    refine (List.filter_eq_self.mpr fun y hy => ?_).symm
    have hne : y.key ≠ x.key := fun z => h1.1 (by rw [← z]; exact List.mem_map.mpr ⟨y, hy, rfl⟩)
    exact decide_eq_true hne
  | x :: ks, m + 1, e, hn, h => by
    have h1 := List.nodup_cons.mp (show (x.key :: keys ks).Nodup from hn)
    have h2 : ks[m]? = some e := by simpa using h
    have hne : x.key ≠ e.key := fun z => h1.1 (by rw [z]; exact List.mem_map.mpr ⟨e, List.mem_of_getElem? h2, rfl⟩)
    rw [List.eraseIdx_cons_succ, List.filter_cons, if_pos (decide_eq_true hne), erase_key h1.2 h2]
theorem filter_keys (ks : List Ke) (p : List Nat → Bool) : keys (ks.filter fun x => p x.key) = (keys ks).filter p := by
  unfold keys
  rw [List.filter_map]
  rfl
theorem use_nodup {ks : List Ke} {e : Ke} (h : (keys ks).Nodup) : (keys (useK ks e)).Nodup := by
  unfold useK keys
  rw [List.map_append]
  have e1 : List.map Ke.key (ks.filter fun x => decide (x.key ≠ e.key)) = (keys ks).filter fun s => decide (s ≠ e.key) := by
    unfold keys
    rw [List.filter_map]
    rfl
  rw [e1]
  refine List.nodup_append.mpr ⟨h.filter _, by simp, fun x hx y hy => ?_⟩
  obtain rfl : y = e.key := by simpa using hy
  have := (List.mem_filter.mp hx).2
  exact of_decide_eq_true this
theorem put_nodup {most : Nat} {ks : List Ke} {e : Ke} (h : (keys ks).Nodup) : (keys (putK most ks e)).Nodup := by
  have h1 := use_nodup (e := e) h
  have : keys (putK most ks e) = (keys (useK ks e)).drop ((useK ks e).length - most) := List.map_drop
  rw [this]
  exact h1.drop
theorem useK_len {ks : List Ke} {e : Ke} : (useK ks e).length ≤ ks.length + 1 := by
  unfold useK
  rw [List.length_append]
  have := List.length_filter_le (fun x : Ke => decide (x.key ≠ e.key)) ks
  simp only [List.length_cons, List.length_nil]
  omega
theorem useK_mem {ks : List Ke} {e x : Ke} (h : x ∈ useK ks e) : x ∈ ks ∨ x = e := by
  rcases List.mem_append.mp h with h | h
  · exact .inl (List.mem_filter.mp h).1
  · exact .inr (List.mem_singleton.mp h)
theorem putK_mem {most : Nat} {ks : List Ke} {e x : Ke} (h : x ∈ putK most ks e) : x ∈ ks ∨ x = e := useK_mem (List.mem_of_mem_drop h)
theorem putK_len {most : Nat} {ks : List Ke} {e : Ke} : (putK most ks e).length ≤ most := by
  have e1 : putK most ks e = (useK ks e).drop ((useK ks e).length - most) := rfl
  rw [e1, List.length_drop]
  omega
abbrev nm_Shelf___init__ : List Str := ["self", "most", "term"]
def t_Shelf___init__ (g : G) (W : WX) : TS := (tSeq (tIfS (tOr (tNot (tTest (tChain (rLeA) (rLeA) (tC (.int 0)) (tVar 1) (tC (.int 6))))) (tNot (tTest (tChain (rLeA) (rLeA) (tC (.int 1)) (tVar 2) (tC (.int 60)))))) (tRaiseC g.cN W) tNext) (tSeq (sFld g.K (tVar 0) (tVar 1) "most") (tSeq (sFld g.K (tVar 0) (tVar 2) "term") (sFld g.K (tVar 0) (tLst tNil) "kept"))))
abbrev nm_Shelf_put : List Str := ["self", "query", "rows", "is_all", "time", "key", "one"]
def t_Shelf_put (g : G) (W : WX) : TS := (tSeq (tAsg (tCallS (sp_folded g) (WE W) (tCons (tVar 1) tNil)) (gName 5)) (tSeq (sFld g.K (tVar 0) (tOp (rAddA g.K) (tLc (iList g.K (tFld g.K (tVar 0) "kept")) (gName 6) (tTest (tOp (rNeA g.K) (tOp (rIx g.K) (tVar 6) (tC (.int 0))) (tVar 5))) (tVar 6) [6]) (tLst (tCons (tTup (tCons (tVar 5) (tCons (tCB (rListA g.K) (tCons (tVar 2) tNil)) (tCons (tVar 3) (tCons (tVar 4) tNil))))) tNil))) "kept") (sFld g.K (tVar 0) (tSl (rSlA g.K) (tFld g.K (tVar 0) "kept") (tPart (tCB (rMax2) (tCons (tC (.int 0)) (tCons (tOp (rSubA) (tCB (rLenA g.K) (tCons (tFld g.K (tVar 0) "kept") tNil)) (tFld g.K (tVar 0) "most")) tNil)))) tNoPart) "kept")))
abbrev nm_Shelf_queries : List Str := ["self", "time", "one"]
def t_Shelf_queries (g : G) (W : WX) : TS := (tRet (tLc (iList g.K (tFld g.K (tVar 0) "kept")) (gName 2) (tTest (tOp (rLtA) (tOp (rSubA) (tVar 1) (tOp (rIx g.K) (tVar 2) (tC (.int 3)))) (tFld g.K (tVar 0) "term"))) (tOp (rIx g.K) (tVar 2) (tC (.int 0))) [2]))
abbrev nm_Shelf_source : List Str := ["self", "query", "time", "key", "found", "one"]
def t_Shelf_source (g : G) (W : WX) : TS := (tSeq (tAsg (tCallS (sp_folded g) (WE W) (tCons (tVar 1) tNil)) (gName 3)) (tSeq (tAsg (tC .non) (gName 4)) (tSeq (tFor (iList g.K (tFld g.K (tVar 0) "kept")) (gName 5) (tIfS (tAnd (tTest (tOp (rLtA) (tOp (rSubA) (tVar 2) (tOp (rIx g.K) (tVar 5) (tC (.int 3)))) (tFld g.K (tVar 0) "term"))) (tOr (tTest (tOp (rEqA g.K) (tOp (rIx g.K) (tVar 5) (tC (.int 0))) (tVar 3))) (tAnd (tB (tOp (rIx g.K) (tVar 5) (tC (.int 2)))) (tTest (tOp (rInA g.K) (tOp (rIx g.K) (tVar 5) (tC (.int 0))) (tVar 3)))))) (tIfS (tOr (tTest (tOp (rIsNo) (tVar 4) (tC .non))) (tTest (tOp (rGtA) (tCB (rLenA g.K) (tCons (tOp (rIx g.K) (tVar 5) (tC (.int 0))) tNil)) (tCB (rLenA g.K) (tCons (tOp (rIx g.K) (tVar 4) (tC (.int 0))) tNil))))) (tAsg (tVar 5) (gName 4)) tNext) tNext)) (tRet (tVar 4)))))
abbrev nm_Shelf_get : List Str := ["self", "query", "many", "time", "one", "other"]
def t_Shelf_get (g : G) (W : WX) : TS := (tSeq (tAsg (tMethS g.cH "source" (sp_Shelf_source g) (WE W) (tVar 0) (tCons (tVar 1) (tCons (tVar 3) tNil))) (gName 4)) (tSeq (tIfS (tTest (tOp (rIsNo) (tVar 4) (tC .non))) (tRet (tC .non)) tNext) (tSeq (sFld g.K (tVar 0) (tOp (rAddA g.K) (tLc (iList g.K (tFld g.K (tVar 0) "kept")) (gName 5) (tTest (tOp (rNeA g.K) (tOp (rIx g.K) (tVar 5) (tC (.int 0))) (tOp (rIx g.K) (tVar 4) (tC (.int 0))))) (tVar 5) [5]) (tLst (tCons (tVar 4) tNil))) "kept") (tRet (tCallS (sp_best g) (WE W) (tCons (tOp (rIx g.K) (tVar 4) (tC (.int 1))) (tCons (tVar 1) (tCons (tVar 2) tNil))))))))
abbrev nm_Shelf_clear : List Str := ["self"]
def t_Shelf_clear (g : G) (W : WX) : TS := (sFld g.K (tVar 0) (tLst tNil) "kept")


def keepKD (key : List Nat) : D → Option D
  | .tup (.str k :: r) => if k = key then none else some (.tup (.str k :: r))
  | _ => none
theorem keepKD_yes {key : List Nat} {e : Ke} (h : e.key ≠ key) : keepKD key (keD e) = some (keD e) := if_neg h
theorem keepKD_no {e : Ke} : keepKD e.key (keD e) = none := if_pos rfl
theorem filterMap_keepK (key : List Nat) : ∀ ks : List Ke, (ks.map keD).filterMap (keepKD key) = (ks.filter fun x => decide (x.key ≠ key)).map keD
  | [] => rfl
  | e :: ks => by
    have ih := filterMap_keepK key ks
    rw [List.map_cons, List.filterMap_cons, List.filter_cons]
    by_cases h : e.key = key
    · subst h
      rw [keepKD_no, if_neg (by simp)]
      exact ih
    · rw [keepKD_yes h, if_pos (decide_eq_true h), List.map_cons]
      exact congrArg (_ :: ·) ih
theorem mem_ks {d : D} {ks : List Ke} (h : d ∈ ks.map keD) : ∃ e ∈ ks, d = keD e := by
  obtain ⟨e, he, q⟩ := List.mem_map.mp h
  exact ⟨e, he, q.symm⟩
theorem not_eq_dec {a b : List Nat} : (!decide (a = b)) = decide (a ≠ b) := by by_cases h : a = b <;> simp [h]
theorem d_Shelf___init__ {g : G} (fl : Fld g.K g.cH ["most", "term", "kept"]) : Keeps 3 nm_Shelf___init__ (t_Shelf___init__ g) (ds_Shelf___init__ g) := by
  rintro W xs M Q E - ⟨a, m, t, rfl, ha, q1, q2⟩
  show lS W (t_Shelf___init__ g W) [some (.ref a), some (.int m), some (.int t)] M _ _
  unfold t_Shelf___init__
  walk_at "d"
  refine ⟨fun h1 => ?_, fun h1 => ?_⟩
  · have h1 := of_decide_eq_true h1
    walk_at "d"
    refine ⟨fun h2 => ?_, fun h2 => ?_⟩
    · have h2 : ¬ m ≤ 6 := by simpa using h2
      walk_at "d"
      exact q2 fun z => h2 z.2.1
    have h2 : m ≤ 6 := by simpa using h2
    walk_at "d"
    refine ⟨fun h3 => ?_, fun h3 => ?_⟩
    · have h3 := of_decide_eq_true h3
      walk_at "d"
      refine ⟨fun h4 => ?_, fun h4 => ?_⟩
      · have h4 : ¬ t ≤ 60 := by simpa using h4
        walk_at "d"
        exact q2 fun z => h4 z.2.2.2
      have h4 : t ≤ 60 := by simpa using h4
      walk_at "d"
      refine s_fldN fl 0 rfl (ns0 := []) rfl ?_
      walk_at "d"
      refine ⟨a, [], rfl, ha, ?_⟩
      walk_at "d"
      refine s_fldN fl 1 rfl (ns0 := ["most"]) rfl ?_
      walk_at "d"
      refine ⟨a, _, rfl, upM_same, ?_⟩
      rw [upM_upM]
      refine s_fldN fl 2 rfl (ns0 := ["most", "term"]) rfl ?_
      refine l_lst ?_
      walk_at "d"
      refine ⟨a, _, rfl, upM_same, ?_⟩
      rw [upM_upM]
      obtain ⟨k, rfl⟩ : ∃ k : Nat, m = (k : Int) := ⟨m.toNat, by omega⟩
      exact q1 ⟨h1, h2, h3, h4⟩
    · have h3 := of_decide_eq_false h3
      walk_at "d"
      exact q2 fun z => h3 z.2.2.1
  · have h1 := of_decide_eq_false h1
    walk_at "d"
    exact q2 fun z => h1 z.1
theorem max0_sub (n m : Nat) : (if ((n : Int) - (m : Int)) > 0 then (n : Int) - (m : Int) else 0) = ((n - m : Nat) : Int) := by
  by_cases h : m < n
  · rw [if_pos (by omega)]
    omega
  · rw [if_neg (by omega)]
    omega
theorem shC_ne {g : G} {M : Mh} {a b : Addr} {most : Nat} {term : Int} {ks : List Ke} (h : M a = some (shC g most term ks)) (hb : M b = none) : a ≠ b := ne_cell h hb
theorem d_Shelf_put {g : G} (fl : Fld g.K g.cH ["most", "term", "kept"]) : Keeps 5 nm_Shelf_put (t_Shelf_put g) (ds_Shelf_put g) := by
  rintro W xs M Q E - ⟨a, most, term, ks, q, x, rows, all, time, rfl, ha, hx, hq, hlen, hks, hrl, qq⟩
  show lS W (t_Shelf_put g W) [some (.ref a), some (.str q), some x, some (.bl all), some (.int time), none, none] M _ _
  unfold t_Shelf_put
  have hql := okT_len hq
  walk_at "d"
  refine ⟨by omega, fun _ => ?_, fun h => absurd h (by rw [hq]; decide)⟩
  walk_at "d"
  refine s_fld fl 2 rfl ?_
  walk_at "d"
  refine l_lcP (wip_name (by decide)) ?_
  walk_at "d"
  refine l_fld fl 2 rfl ?_
  walk_at "d"
  refine ⟨a, _, _, rfl, ha, rfl, _, isL_lst, keepKD (fold q), by rw [List.length_map]; omega, fun _ _ => isL_lst, ?_, ?_⟩
  · intro d hd M' k
    obtain ⟨e, he, rfl⟩ := mem_ks hd
    walk_at "d"
    unfold keD
    refine r_ix (ds := [.str e.key, .lst (e.rows.map D.str), .bl e.all, .int e.at']) (.inr rfl) rfl ?_
    walk_at "d"
    refine ⟨fun h => ?_, fun h => ?_⟩
    · walk_at "d"
      exact keepKD_yes (by simpa using h)
    · have h : e.key = fold q := by simpa using h
      rw [← h]
      exact ⟨rfl, keepKD_no⟩
  · rw [filterMap_keepK]
    have hfl := List.length_filter_le (fun x : Ke => decide (x.key ≠ fold q)) ks
    walk_at "d"
    refine l_lst ?_
    walk_at "d"
    refine c_list (hx.imp id id |> .inl) ?_
    walk_at "d"
    refine r_addL isL_lst isL_lst (by rw [List.length_map]; simp only [List.length_cons, List.length_nil]; omega) ?_
    have e1 : List.map keD (ks.filter fun x => decide (x.key ≠ fold q)) ++ [D.tup [.str (fold q), .lst (rows.map D.str), .bl all, .int time]] = (useK ks ⟨fold q, rows, all, time⟩).map keD := by
      unfold useK
      rw [List.map_append]
      rfl
    rw [e1]
    walk_at "d"
    refine ⟨a, _, rfl, ha, ?_⟩
    walk_at "d"
    refine s_fld fl 2 rfl ?_
    walk_at "d"
    refine l_fld fl 2 rfl ?_
    walk_at "d"
    refine ⟨a, _, _, rfl, upM_same, rfl, ?_⟩
    walk_at "d"
    refine l_fld fl 2 rfl ?_
    walk_at "d"
    refine ⟨a, _, _, rfl, upM_same, rfl, ?_⟩
    walk_at "d"
    refine c_len (.inl isL_lst) ?_
    walk_at "d"
    refine l_fld fl 0 rfl ?_
    walk_at "d"
    refine ⟨a, _, _, rfl, upM_same, rfl, ?_⟩
    walk_at "d"
    rw [List.length_map, max0_sub]
    refine sl_L isL_lst ?_
    rw [cut_from, ← List.map_drop]
    walk_at "d"
    refine ⟨a, _, rfl, upM_same, ?_⟩
    rw [upM_upM]
    exact qq
def liveD (term time : Int) : D → Option D
  | .tup [.str k, _, _, .int t] => if decide (time - t < term) = true then some (.str k) else none
  | _ => none
theorem filterMap_live (term time : Int) : ∀ ks : List Ke, (ks.map keD).filterMap (liveD term time) = ((ks.filter (live term time)).map Ke.key).map D.str
  | [] => rfl
  | e :: ks => by
    have ih := filterMap_live term time ks
    rw [List.map_cons, List.filterMap_cons, List.filter_cons]
    have e1 : liveD term time (keD e) = if live term time e = true then some (.str e.key) else none := rfl
    rw [e1]
    by_cases h : live term time e = true
    · rw [if_pos h, if_pos h, List.map_cons, List.map_cons]
      exact congrArg (_ :: ·) ih
    · rw [if_neg h, if_neg h]
      exact ih
theorem d_Shelf_queries {g : G} (fl : Fld g.K g.cH ["most", "term", "kept"]) : Keeps 2 nm_Shelf_queries (t_Shelf_queries g) (ds_Shelf_queries g) := by
  rintro W xs M Q E - ⟨a, most, term, ks, time, rfl, ha, hlen, qq⟩
  show lS W (t_Shelf_queries g W) [some (.ref a), some (.int time), none] M _ _
  unfold t_Shelf_queries
  walk_at "d"
  refine l_lcP (wip_name (by decide)) ?_
  walk_at "d"
  refine l_fld fl 2 rfl ?_
  walk_at "d"
  refine ⟨a, _, _, rfl, ha, rfl, _, isL_lst, liveD term time, by rw [List.length_map]; omega, fun _ _ => isL_lst, ?_, ?_⟩
  · intro d hd M' k
    obtain ⟨e, he, rfl⟩ := mem_ks hd
    walk_at "d"
    unfold keD
    refine r_ix (ds := [.str e.key, .lst (e.rows.map D.str), .bl e.all, .int e.at']) (.inr rfl) rfl ?_
    walk_at "d"
    refine l_fld fl 1 rfl ?_
    walk_at "d"
    refine ⟨a, _, _, rfl, k _ _ ha, rfl, ?_⟩
    walk_at "d"
    refine ⟨fun h => ?_, fun h => ?_⟩
    · walk_at "d"
      refine r_ix (ds := [.str e.key, .lst (e.rows.map D.str), .bl e.all, .int e.at']) (.inr rfl) rfl ?_
      exact ⟨rfl, if_pos h⟩
    · exact ⟨rfl, if_neg (by rw [h]; exact Bool.false_ne_true)⟩
  · rw [filterMap_live]
    exact qq
theorem d_Shelf_clear {g : G} (fl : Fld g.K g.cH ["most", "term", "kept"]) : Keeps 1 nm_Shelf_clear (t_Shelf_clear g) (ds_Shelf_clear g) := by
  rintro W xs M Q E - ⟨a, most, term, ks, rfl, ha, qq⟩
  show lS W (t_Shelf_clear g W) [some (.ref a)] M _ _
  unfold t_Shelf_clear
  refine s_fld fl 2 rfl ?_
  refine l_lst ?_
  walk_at "d"
  exact ⟨a, _, rfl, ha, qq⟩
theorem okK_len {e : Ke} (h : keOk e) : e.key.length ≤ 1000 := h.1
theorem d_Shelf_source {g : G} (fl : Fld g.K g.cH ["most", "term", "kept"]) : Keeps 3 nm_Shelf_source (t_Shelf_source g) (ds_Shelf_source g) := by
  rintro W xs M Q E - ⟨a, most, term, ks, q, time, rfl, ha, hq, hks, qq⟩
  show lS W (t_Shelf_source g W) [some (.ref a), some (.str q), some (.int time), none, none, none] M _ _
  unfold t_Shelf_source
  have hql := okT_len hq
  have hfl := fold_len (s := q)
  walk_at "d"
  refine ⟨by omega, fun _ => ?_, fun h => absurd h (by rw [hq]; decide)⟩
  walk_at "d"
  refine s_for ?_
  walk_at "d"
  refine l_fld fl 2 rfl ?_
  walk_at "d"
  refine ⟨a, _, _, rfl, ha, rfl, _, isL_lst, fun i ρ M' => ∃ y, ρ = [some (.ref a), some (.str q), some (.int time), some (.str (fold q)), some (optK (srcK (canTell term time (fold q)) (ks.take i))), y] ∧ M' = M, ⟨none, rfl, rfl⟩, fun _ _ _ _ => isL_lst, ?_, ?_⟩
  · rintro i ρ' M' d hd ⟨y, rfl, rfl⟩
    obtain ⟨e, he, rfl⟩ : ∃ e, ks[i]? = some e ∧ d = keD e := by
      rw [List.getElem?_map] at hd
      cases h : ks[i]? with
      | none => rw [h] at hd; cases hd
      | some e => rw [h] at hd; exact ⟨e, rfl, (Option.some.inj hd).symm⟩
    have hk := (hks e (List.mem_of_getElem? he)).1
    have et : srcK (canTell term time (fold q)) (ks.take (i + 1)) = srcStep (canTell term time (fold q)) (srcK (canTell term time (fold q)) (ks.take i)) e := by
      rw [take_succ_get he, src_cons]
    have hfk : ∀ f, srcK (canTell term time (fold q)) (ks.take i) = some f → f.key.length ≤ 1000 := fun f hf => (hks f (List.mem_of_mem_take (src_mem hf).1)).1
    generalize srcK (canTell term time (fold q)) (ks.take i) = fnd at et hfk
    have done : ∀ fnd', srcStep (canTell term time (fold q)) fnd e = fnd' → (∃ y, [some (D.ref a), some (.str q), some (.int time), some (.str (fold q)), some (optK fnd'), some (keD e)] = [some (.ref a), some (.str q), some (.int time), some (.str (fold q)), some (optK (srcK (canTell term time (fold q)) (ks.take (i + 1)))), y] ∧ M' = M') := fun fnd' h => ⟨_, by rw [et, h], rfl⟩
    have no : canTell term time (fold q) e = false → srcStep (canTell term time (fold q)) fnd e = fnd := fun h => by
      unfold srcStep
      rw [h]
      rfl
    have cut : ∀ {A : DE} {X : XD}, (canTell term time (fold q) e = true → lS W (tIfS (tOr (tTest (tOp (rIsNo) (tVar 4) (tC .non))) (tTest (tOp (rGtA) (tCB (rLenA g.K) (tCons (tOp (rIx g.K) (tVar 5) (tC (.int 0))) tNil)) (tCB (rLenA g.K) (tCons (tOp (rIx g.K) (tVar 4) (tC (.int 0))) tNil))))) (tAsg (tVar 5) (gName 4)) tNext) [some (.ref a), some (.str q), some (.int time), some (.str (fold q)), some (optK fnd), some (keD e)] M' A X) → (canTell term time (fold q) e = false → A.nx [some (.ref a), some (.str q), some (.int time), some (.str (fold q)), some (optK fnd), some (keD e)] M') →
      lS W (tIfS (tAnd (tTest (tOp (rLtA) (tOp (rSubA) (tVar 2) (tOp (rIx g.K) (tVar 5) (tC (.int 3)))) (tFld g.K (tVar 0) "term"))) (tOr (tTest (tOp (rEqA g.K) (tOp (rIx g.K) (tVar 5) (tC (.int 0))) (tVar 3))) (tAnd (tB (tOp (rIx g.K) (tVar 5) (tC (.int 2)))) (tTest (tOp (rInA g.K) (tOp (rIx g.K) (tVar 5) (tC (.int 0))) (tVar 3)))))) (tIfS (tOr (tTest (tOp (rIsNo) (tVar 4) (tC .non))) (tTest (tOp (rGtA) (tCB (rLenA g.K) (tCons (tOp (rIx g.K) (tVar 5) (tC (.int 0))) tNil)) (tCB (rLenA g.K) (tCons (tOp (rIx g.K) (tVar 4) (tC (.int 0))) tNil))))) (tAsg (tVar 5) (gName 4)) tNext) tNext) [some (.ref a), some (.str q), some (.int time), some (.str (fold q)), some (optK fnd), some (keD e)] M' A X := by
      intro A X yes nope
      refine s_if (lT_bool (b := canTell term time (fold q) e) ?_ ⟨yes, fun h => s_next (nope h)⟩)
      unfold canTell live tells
      walk_at "d"
      refine r_ix (ds := [.str e.key, .lst (e.rows.map D.str), .bl e.all, .int e.at']) (.inr rfl) rfl ?_
      walk_at "d"
      refine l_fld fl 1 rfl ?_
      walk_at "d"
      refine ⟨a, _, _, rfl, ha, rfl, ?_⟩
      walk_at "d"
      refine ⟨fun h1 => ?_, fun h1 => ?_⟩
      · rw [h1]
        walk_at "d"
        refine r_ix (ds := [.str e.key, .lst (e.rows.map D.str), .bl e.all, .int e.at']) (.inr rfl) rfl ?_
        walk_at "d"
        refine ⟨fun h2 => ?_, fun h2 => ?_⟩
        · rw [h2]
          exact ⟨rfl, rfl⟩
        · rw [h2]
          walk_at "d"
          refine r_ix (ds := [.str e.key, .lst (e.rows.map D.str), .bl e.all, .int e.at']) (.inr rfl) rfl ?_
          walk_at "d"
          refine ⟨fun h3 => ?_, fun h3 => ?_⟩
          · rw [h3]
            walk_at "d"
            refine r_ix (ds := [.str e.key, .lst (e.rows.map D.str), .bl e.all, .int e.at']) (.inr rfl) rfl ?_
            walk_at "d"
            simp
          · rw [h3]
            exact ⟨rfl, rfl⟩
      · rw [h1]
        exact ⟨rfl, rfl⟩
    refine g_nameN rfl ?_
    refine cut (fun hc => ?_) fun hc => done _ (no hc)
    cases fnd with
    | none =>
      have e1 : srcStep (canTell term time (fold q)) none e = some e := by
        unfold srcStep
        rw [hc]
        rfl
      walk_at "d"
      refine br_t ?_
      walk_at "d"
      exact done _ e1
    | some f =>
      have hf := hfk f rfl
      walk_at "d"
      refine br_nf' ?_
      walk_at "d"
      refine r_ix (ds := [.str e.key, .lst (e.rows.map D.str), .bl e.all, .int e.at']) (.inr rfl) rfl ?_
      walk_at "d"
      refine r_ix (ds := [.str f.key, .lst (f.rows.map D.str), .bl f.all, .int f.at']) (.inr rfl) rfl ?_
      walk_at "d"
      refine ⟨fun h => ?_, fun h => ?_⟩
      · have h := of_decide_eq_true h
        walk_at "d"
        refine done (some e) ?_
        unfold srcStep
        rw [hc, Bool.true_and]
        exact if_pos (decide_eq_true (by omega))
      · have h := of_decide_eq_false h
        walk_at "d"
        refine done (some f) ?_
        unfold srcStep
        rw [hc, Bool.true_and]
        exact if_neg (fun z => absurd (of_decide_eq_true z) (by omega))
  · rintro ρ' M' ⟨y, rfl, rfl⟩
    rw [List.length_map, List.take_length]
    walk_at "d"
    exact qq
theorem d_Shelf_get {g : G} (fl : Fld g.K g.cH ["most", "term", "kept"]) : Keeps 4 nm_Shelf_get (t_Shelf_get g) (ds_Shelf_get g) := by
  rintro W xs M Q E - ⟨a, most, term, ks, q, n, time, rfl, ha, hq, hlen, hks, q1, q2⟩
  show lS W (t_Shelf_get g W) [some (.ref a), some (.str q), some (.int n), some (.int time), none, none] M _ _
  unfold t_Shelf_get
  have hql := okT_len hq
  walk_at "d"
  refine l_meth ?_
  walk_at "d"
  refine ⟨a, _, _, rfl, ha, by decide, ?_⟩
  walk_at "d"
  refine ⟨a, most, term, ks, q, time, rfl, ha, okT_mono hq (by omega), hks, ?_⟩
  cases h : srcK (canTell term time (fold q)) ks with
  | none =>
    walk_at "d"
    refine br_t ?_
    walk_at "d"
    exact q1 h
  | some e =>
    have hm := src_mem h
    have hk := hks e hm.1
    walk_at "d"
    refine br_nf' ?_
    walk_at "d"
    refine s_fld fl 2 rfl ?_
    walk_at "d"
    refine l_lcP (wip_name (by decide)) ?_
    walk_at "d"
    refine l_fld fl 2 rfl ?_
    walk_at "d"
    refine ⟨a, _, _, rfl, ha, rfl, _, isL_lst, keepKD e.key, by rw [List.length_map]; omega, fun _ _ => isL_lst, ?_, ?_⟩
    · intro d hd M' k
      obtain ⟨x, hx, rfl⟩ := mem_ks hd
      walk_at "d"
      refine r_ix (ds := [.str x.key, .lst (x.rows.map D.str), .bl x.all, .int x.at']) (.inr rfl) rfl ?_
      walk_at "d"
      refine r_ix (ds := [.str e.key, .lst (e.rows.map D.str), .bl e.all, .int e.at']) (.inr rfl) rfl ?_
      walk_at "d"
      refine ⟨fun h => ?_, fun h => ?_⟩
      · walk_at "d"
        exact keepKD_yes (by simpa using h)
      · have h : x.key = e.key := by simpa using h
        rw [← h]
        exact ⟨rfl, keepKD_no⟩
    · rw [filterMap_keepK]
      have hfl := List.length_filter_le (fun x : Ke => decide (x.key ≠ e.key)) ks
      walk_at "d"
      refine l_lst ?_
      walk_at "d"
      refine r_addL isL_lst isL_lst (by rw [List.length_map]; simp only [List.length_cons, List.length_nil]; omega) ?_
      have e1 : List.map keD (ks.filter fun x => decide (x.key ≠ e.key)) ++ [keD e] = (useK ks e).map keD := by
        unfold useK
        rw [List.map_append]
        rfl
      have e1' : List.map keD (ks.filter fun x => decide (x.key ≠ e.key)) ++ [optK (some e)] = (useK ks e).map keD := e1
      rw [e1']
      walk_at "d"
      refine ⟨a, _, rfl, ha, ?_⟩
      walk_at "d"
      refine r_ix (ds := [.str e.key, .lst (e.rows.map D.str), .bl e.all, .int e.at']) (.inr rfl) rfl ?_
      walk_at "d"
      refine ⟨_, e.rows, q, n, rfl, isL_lst, hk.2, hq, ?_⟩
      exact q2 e h
abbrev nm__law_rows : List Str := ["_law_script", "_law_town", "_law_most", "_law_found", "_law_k", "_law_row_here"]
def t__law_rows (g : G) (W : WX) : TS := (tSeq (tAsg (tLst tNil) (gName 3)) (tSeq (tFor (iRng1 (tCons (tCallS (sp__law_draw g) (WE W) (tCons (tVar 0) (tCons (tVar 1) (tCons (tOp (rAddA g.K) (tVar 2) (tC (.int 1))) tNil)))) tNil)) (gName 4) (tSeq (tAsg (tCallS (sp__law_row g) (WE W) (tCons (tVar 0) (tCons (tVar 1) tNil))) (gName 5)) (tIfS (tAnd (tTest (tOp (rNinA g.K) (tVar 5) (tVar 3))) (tTest (tOp (rNeA g.K) (tCallS (sp__law_folded g) (WE W) (tCons (tVar 5) tNil)) (tC (.str (S [])))))) (tDrop (tBM g.K "list" (rAppend) (tVar 3) (tCons (tVar 5) tNil))) tNext))) (tRet (tVar 3))))


/-! ### drawn rows, no two alike -/
structure goodRows (rows : List (List Nat)) : Prop where
  nd : rows.Nodup
  ok : ∀ r ∈ rows, isRow r
def ds__law_rows (g : G) : DSp := fun xs M Q _ => ∃ (ns : List Int) (t : Addr) (most n : Nat), xs = [scr g.K ns, .ref t, .int (most : Int)] ∧ most ≤ 100 ∧ n + 1000 < 90000 ∧ Twn M t n ∧
  ∀ l rows M1, M l = none → Tw M t (n + 1 + 7 * most) M1 → goodRows rows → rows.length ≤ most → Q (.ref l) (upM M1 l (.lst (rows.map D.str)))
abbrev sp__law_rows (g : G) : Sp := lift 3 (ds__law_rows g)
theorem isRow20 {r : List Nat} (h : isRow r) : okT 20 r = true := okT_mono h.1 (by omega)
theorem isRow_fold {r : List Nat} (h : isRow r) : fold r ≠ [] := by
  rw [← lfold_fold]
  exact lfold_ne h.2.1
theorem d__law_rows {g : G} : Keeps 3 nm__law_rows (t__law_rows g) (ds__law_rows g) := by
  rintro W xs M Q E - ⟨ns, t, most, n, rfl, hm, hn, ht, q⟩
  show lS W (t__law_rows g W) [some (scr g.K ns), some (.ref t), some (.int most), none, none, none] M _ _
  unfold t__law_rows
  walk_at "d"
  refine l_lstM ?_
  walk_at "d"
  intro l hl
  have hlt := ht.fr hl
  walk_at "d"
  refine s_for ?_
  walk_at "d"
  refine ⟨ns, t, most + 1, n, rfl, by omega, by omega, ht.up hlt, fun d M1 hd w => ?_⟩
  obtain ⟨M2, w2, rfl⟩ := w.under hlt
  walk_at "d"
  refine ⟨by omega, by omega, fun i ρ M' => ∃ (rows : List (List Nat)) (y4 y5 : Option D) (M3 : Mh), ρ = [some (scr g.K ns), some (.ref t), some (.int most), some (.ref l), y4, y5] ∧ M' = upM M3 l (.lst (rows.map D.str)) ∧ Tw M t (n + 1 + 7 * i) M3 ∧ goodRows rows ∧ rows.length ≤ i,
    ⟨[], none, none, M2, rfl, rfl, w2, ⟨List.nodup_nil, fun r h => absurd h (by simp)⟩, Nat.le_refl _⟩, fun _ _ _ _ => trivial, ?_, ?_⟩
  · rintro i ρ' M' d2 hd2 ⟨rows, y4, y5, M3, rfl, rfl, w3, hg, hlen⟩
    obtain ⟨hi, rfl⟩ := rng_at hd2
    have hi : i < most := by omega
    walk_at "d"
    refine ⟨ns, t, n + 1 + 7 * i, rfl, by omega, w3.twn.up hlt, fun r M4 hr w4 => ?_⟩
    obtain ⟨M5, w5, rfl⟩ := w4.under hlt
    have w6 := w3.trans w5
    have hrl := okT_len hr.1
    walk_at "d"
    refine r_ninSs (.inl (isL_ref upM_same)) ?_
    walk_at "d"
    refine ⟨fun h => ?_, fun h => ?_⟩
    · have h : r ∉ rows := by simpa using h
      walk_at "d"
      refine ⟨by omega, okT_asc hr.1, ?_⟩
      rw [lfold_fold]
      walk_at "d"
      have hf := isRow_fold hr
      rw [decide_eq_false hf]
      refine br_nt ?_
      walk_at "d"
      refine l_bmL ?_
      walk_at "d"
      refine ⟨⟨_, isL_ref upM_same⟩, ?_⟩
      walk_at "d"
      refine m_append upM_same (by rw [List.length_map]; omega) ?_
      refine ⟨rows ++ [r], _, _, M5, rfl, ?_, w6.mono (by omega), ⟨List.nodup_append.mpr ⟨hg.nd, by simp, fun x hx y hy => ?_⟩, fun x hx => ?_⟩, by rw [List.length_append]; simp only [List.length_cons, List.length_nil]; omega⟩
      · rw [upM_upM, List.map_append]
        rfl
      · rw [List.mem_singleton.mp hy]
        exact fun z => h (by rw [← z]; exact hx)
      · rcases List.mem_append.mp hx with hx | hx
        · exact hg.ok x hx
        · rw [List.mem_singleton.mp hx]
          exact hr
    · walk_at "d"
      exact ⟨rows, _, _, M5, rfl, rfl, w6.mono (by omega), hg, by omega⟩
  · rintro ρ' M' ⟨rows, y4, y5, M3, rfl, rfl, w3, hg, hlen⟩
    rw [rng_len] at w3 hlen
    walk_at "d"
    exact q l rows M3 hl (w3.mono (by omega)) hg (by omega)


/-! ### roads: what they compute -/
structure Fl where
  when : Int
  num : Nat
  q : List Nat
def flD (f : Fl) : D := .tup [.int f.when, .int (f.num : Int), .str f.q]
def nqD (f : Fl) : D := .tup [.int (f.num : Int), .str f.q]
def dvD : Option Int → D
  | none => .non
  | some i => .int i
abbrev rdNs : List Str := ["delays", "sent", "under_way"]
def rdC (g : G) (dl : List (Option Int)) (sent : Nat) (u : Addr) : Cell := .ins g.cR rdNs [.lst (dl.map dvD), .int (sent : Int), .ref u]
def dvOk : Option Int → Bool
  | none => true
  | some i => decide (1 ≤ i) && decide (i ≤ 30)
def rdOk (dl : List (Option Int)) : Bool := decide (1 ≤ dl.length) && decide (dl.length ≤ 8) && dl.all dvOk
structure IsRd (g : G) (M : Mh) (a u : Addr) (dl : List (Option Int)) (sent : Nat) (ws : List Fl) : Prop where
  ob : M a = some (rdC g dl sent u)
  us : M u = some (.lst (ws.map flD))
def leF (a b : Fl) : Bool := leD (flD a) (flD b)
def sortF (fs : List Fl) : List Fl := fs.mergeSort leF
theorem flOk (fs : List Fl) : SortOk (fs.map flD) := SortOk.of (fun _ => rfl) (fun _ _ => rfl) (.inl fun b => ⟨_, _, rfl⟩) (fun b => by show _ ≤ 60; simp [flD, toPy, toPys, PyData.depth, PyData.depthAll])
theorem srt_fl (fs : List Fl) : srt (fs.map flD) = (sortF fs).map flD := srt_map flD fs
def comes (time : Int) (f : Fl) : Bool := decide (f.when ≤ time)
def stays (time : Int) (f : Fl) : Bool := decide (time < f.when)
def sendW (dl : List (Option Int)) (sent : Nat) (ws : List Fl) (q : List Nat) (time : Int) : List Fl :=
  match dl[sent % dl.length]? with
  | some (some d) => ws ++ [⟨time + d, sent + 1, q⟩]
  | _ => ws
def dueL (ws : List Fl) (time : Int) : List Fl := sortF (ws.filter (comes time))
/-! the promises -/
def ds_Road___init__ (g : G) : DSp := fun xs M Q E => ∃ (a : Addr) (x : D) (dl : List (Option Int)), xs = [.ref a, x] ∧ isL M x (dl.map dvD) ∧ dl.length ≤ 1000 ∧ M a = some (.ins g.cR [] []) ∧
  (rdOk dl = true → ∀ u, M u = none → u ≠ a → Q .non (upM (upM M u (.lst [])) a (rdC g dl 0 u))) ∧ (rdOk dl = false → E g.cN M)
abbrev sp_Road___init__ (g : G) : Sp := lift 2 (ds_Road___init__ g)
def ds_Road_send (g : G) : DSp := fun xs M Q _ => ∃ (a u : Addr) (dl : List (Option Int)) (sent : Nat) (ws : List Fl) (q : List Nat) (time : Int), xs = [.ref a, .str q, .int time] ∧ IsRd g M a u dl sent ws ∧ dl ≠ [] ∧ ws.length ≤ 10000 ∧ dl.length ≤ 1000 ∧
  Q (.int ((sent + 1 : Nat) : Int)) (upM (upM M a (rdC g dl (sent + 1) u)) u (.lst ((sendW dl sent ws q time).map flD)))
abbrev sp_Road_send (g : G) : Sp := lift 3 (ds_Road_send g)
def ds_Road_due (g : G) : DSp := fun xs M Q _ => ∃ (a u : Addr) (dl : List (Option Int)) (sent : Nat) (ws : List Fl) (time : Int), xs = [.ref a, .int time] ∧ IsRd g M a u dl sent ws ∧ ws.length ≤ 10000 ∧
  ∀ v, M v = none → Q (.lst ((dueL ws time).map nqD)) (upM (upM M v (.lst ((ws.filter (stays time)).map flD))) a (rdC g dl sent v))
abbrev sp_Road_due (g : G) : Sp := lift 2 (ds_Road_due g)
def ds_Road_many (g : G) : DSp := fun xs M Q _ => ∃ (a u : Addr) (dl : List (Option Int)) (sent : Nat) (ws : List Fl), xs = [.ref a] ∧ IsRd g M a u dl sent ws ∧ Q (.int (sent : Int)) M
abbrev sp_Road_many (g : G) : Sp := lift 1 (ds_Road_many g)
abbrev nm_Road___init__ : List Str := ["self", "delays", "good", "delay"]
def t_Road___init__ (g : G) (W : WX) : TS := (tSeq (tAsg (tChain (rLeA) (rLeA) (tC (.int 1)) (tCB (rLenA g.K) (tCons (tVar 1) tNil)) (tC (.int 8))) (gName 2)) (tSeq (tIfS (tOr (tNot (tB (tVar 2))) (tNot (tB (tCB (rAll g.K) (tCons (tLc (iList g.K (tVar 1)) (gName 3) tYes (tOrV (tOp (rIsNo) (tVar 3) (tC .non)) (tChain (rLeA) (rLeA) (tC (.int 1)) (tVar 3) (tC (.int 30)))) [3]) tNil))))) (tRaiseC g.cN W) tNext) (tSeq (sFld g.K (tVar 0) (tCB (rListA g.K) (tCons (tVar 1) tNil)) "delays") (tSeq (sFld g.K (tVar 0) (tC (.int 0)) "sent") (sFld g.K (tVar 0) (tLst tNil) "under_way")))))
abbrev nm_Road_send : List Str := ["self", "query", "time", "delay"]
def t_Road_send (g : G) (W : WX) : TS := (tSeq (tAsg (tOp (rIx g.K) (tFld g.K (tVar 0) "delays") (tOp (rModA) (tFld g.K (tVar 0) "sent") (tCB (rLenA g.K) (tCons (tFld g.K (tVar 0) "delays") tNil)))) (gName 3)) (tSeq (sFld g.K (tVar 0) (tOp (rAddA g.K) (tFld g.K (tVar 0) "sent") (tC (.int 1))) "sent") (tSeq (tIfS (tTest (tOp (rNotNo) (tVar 3) (tC .non))) (tDrop (tBM g.K "list" (rAppend) (tFld g.K (tVar 0) "under_way") (tCons (tTup (tCons (tOp (rAddA g.K) (tVar 2) (tVar 3)) (tCons (tFld g.K (tVar 0) "sent") (tCons (tVar 1) tNil)))) tNil))) tNext) (tRet (tFld g.K (tVar 0) "sent")))))
abbrev nm_Road_due : List Str := ["self", "time", "found", "one", "when", "number", "query"]
def t_Road_due (g : G) (W : WX) : TS := (tSeq (tAsg (tCB (rSortA g.K) (tCons (tLc (iList g.K (tFld g.K (tVar 0) "under_way")) (gName 3) (tTest (tOp (rLeA) (tOp (rIx g.K) (tVar 3) (tC (.int 0))) (tVar 1))) (tVar 3) [3]) tNil)) (gName 2)) (tSeq (sFld g.K (tVar 0) (tLc (iList g.K (tFld g.K (tVar 0) "under_way")) (gName 3) (tTest (tOp (rGtA) (tOp (rIx g.K) (tVar 3) (tC (.int 0))) (tVar 1))) (tVar 3) [3]) "under_way") (tRet (tLc (iList g.K (tVar 2)) (gTup g.K 3 (gCons (gName 4) (gCons (gName 5) (gCons (gName 6) gNil)))) tYes (tTup (tCons (tVar 5) (tCons (tVar 6) tNil))) [4, 5, 6]))))
abbrev nm_Road_many : List Str := ["self"]
def t_Road_many (g : G) (W : WX) : TS := (tRet (tFld g.K (tVar 0) "sent"))


def dvF : D → Option D
  | .non => some (.bl true)
  | .int i => some (.bl (decide (1 ≤ i) && decide (i ≤ 30)))
  | _ => none
theorem filterMap_dv : ∀ dl : List (Option Int), (dl.map dvD).filterMap dvF = (dl.map dvOk).map D.bl
  | [] => rfl
  | none :: dl => congrArg (_ :: ·) (filterMap_dv dl)
  | some i :: dl => congrArg (_ :: ·) (filterMap_dv dl)
theorem d_Road___init__ {g : G} (fl : Fld g.K g.cR ["delays", "sent", "under_way"]) : Keeps 2 nm_Road___init__ (t_Road___init__ g) (ds_Road___init__ g) := by
  rintro W xs M Q E - ⟨a, x, dl, rfl, hx, hl, ha, q1, q2⟩
  show lS W (t_Road___init__ g W) [some (.ref a), some x, none, none] M _ _
  unfold t_Road___init__
  unfold rdOk at q1 q2
  walk_at "d1"
  walk_at "d1"
  refine lE_val (d := .bl (decide (1 ≤ dl.length) && decide (dl.length ≤ 8))) ?_ ?_
  · walk_at "d"
    refine c_len (.inl hx) ?_
    rw [List.length_map]
    walk_at "d"
    refine ⟨fun h => ?_, fun h => ?_⟩
    · have h := of_decide_eq_true h
      walk_at "d"
      rw [decide_eq_true (by omega : 1 ≤ dl.length)]
      by_cases z : dl.length ≤ 8
      · rw [decide_eq_true z, decide_eq_true (by omega)]
        exact ⟨rfl, rfl⟩
      · rw [decide_eq_false z, decide_eq_false (by omega)]
        exact ⟨rfl, rfl⟩
    · have h := of_decide_eq_false h
      rw [decide_eq_false (by omega : ¬ 1 ≤ dl.length)]
      exact ⟨rfl, rfl⟩
  generalize (decide (1 ≤ dl.length) && decide (dl.length ≤ 8)) = good at q1 q2
  walk_at "d"
  refine ⟨fun h => ?_, fun h => ?_⟩
  · rw [Bool.not_eq_true'] at h
    subst h
    walk_at "d"
    exact q2 rfl
  · rw [Bool.not_eq_false'] at h
    subst h
    walk_at "d"
    refine l_lcP (wip_name (by decide)) ?_
    walk_at "d"
    refine ⟨_, hx, dvF, by rw [List.length_map]; omega, fun _ k => hx.kn k, ?_, ?_⟩
    · intro d hd M' k
      obtain ⟨e, he, rfl⟩ := mem_map' hd
      walk_at "d"
      cases e with
      | none =>
        walk_at "d"
        refine br_t ?_
        exact ⟨rfl, rfl⟩
      | some i =>
        walk_at "d"
        refine br_f ?_
        unfold dvD
        walk_at "d"
        refine ⟨fun h => ?_, fun h => ?_⟩
        · walk_at "d"
          show some (D.bl (decide (1 ≤ i) && decide (i ≤ 30))) = _
          rw [h]
          rfl
        · show M' = M' ∧ some (D.bl (decide (1 ≤ i) && decide (i ≤ 30))) = _
          rw [h]
          exact ⟨rfl, rfl⟩
    · rw [filterMap_dv]
      walk_at "d"
      refine c_all isL_lst ?_
      have e2 : ((dl.map dvOk).all id) = dl.all dvOk := by rw [List.all_map]; rfl
      rw [e2]
      walk_at "d"
      refine ⟨fun h => ?_, fun h => ?_⟩
      · rw [Bool.not_eq_true'] at h
        walk_at "d"
        exact q2 (by rw [h]; rfl)
      · rw [Bool.not_eq_false'] at h
        walk_at "d"
        refine s_fldN fl 0 rfl (ns0 := []) rfl ?_
        walk_at "d"
        refine c_list (.inl hx) ?_
        walk_at "d"
        refine ⟨a, [], rfl, ha, ?_⟩
        walk_at "d"
        refine s_fldN fl 1 rfl (ns0 := ["delays"]) rfl ?_
        walk_at "d"
        refine ⟨a, _, rfl, upM_same, ?_⟩
        rw [upM_upM]
        refine s_fldN fl 2 rfl (ns0 := ["delays", "sent"]) rfl ?_
        refine l_lstM ?_
        walk_at "d"
        intro u hu
        have hua : u ≠ a := fun z => by rw [z, upM_same] at hu; cases hu
        walk_at "d"
        refine ⟨a, _, rfl, by rw [upM_ne hua.symm, upM_same]; rfl, ?_⟩
        rw [upM_swap2 hua.symm]
        rw [upM_ne hua] at hu
        exact q1 (by rw [h]; rfl) u hu hua
theorem d_Road_many {g : G} (fl : Fld g.K g.cR ["delays", "sent", "under_way"]) : Keeps 1 nm_Road_many (t_Road_many g) (ds_Road_many g) := by
  rintro W xs M Q E - ⟨a, u, dl, sent, ws, rfl, rd, q⟩
  show lS W (t_Road_many g W) [some (.ref a)] M _ _
  unfold t_Road_many
  walk_at "d"
  refine l_fld fl 1 rfl ?_
  walk_at "d"
  exact ⟨a, _, _, rfl, rd.ob, rfl, q⟩
def flKeep (p : Int → Bool) : D → Option D
  | .tup (.int w :: r) => if p w = true then some (.tup (.int w :: r)) else none
  | _ => none
theorem filterMap_fl (p : Int → Bool) : ∀ ws : List Fl, (ws.map flD).filterMap (flKeep p) = (ws.filter fun f => p f.when).map flD
  | [] => rfl
  | f :: ws => by
    have ih := filterMap_fl p ws
    rw [List.map_cons, List.filterMap_cons, List.filter_cons]
    have e1 : flKeep p (flD f) = if p f.when = true then some (flD f) else none := rfl
    rw [e1]
    by_cases h : p f.when = true
    · rw [if_pos h, if_pos h, List.map_cons]
      exact congrArg (_ :: ·) ih
    · rw [if_neg h, if_neg h]
      exact ih
def nqOf : D → Option D
  | .tup [_, n, q] => some (.tup [n, q])
  | _ => none
theorem filterMap_nq : ∀ ws : List Fl, (ws.map flD).filterMap nqOf = ws.map nqD
  | [] => rfl
  | _ :: ws => congrArg (_ :: ·) (filterMap_nq ws)
theorem IsRd.ne {g : G} {M : Mh} {a u : Addr} {dl : List (Option Int)} {sent : Nat} {ws : List Fl} (h : IsRd g M a u dl sent ws) : a ≠ u := ne_cell' h.ob h.us
theorem sortF_len (fs : List Fl) : (sortF fs).length = fs.length := List.length_mergeSort _
theorem d_Road_send {g : G} (fl : Fld g.K g.cR ["delays", "sent", "under_way"]) : Keeps 3 nm_Road_send (t_Road_send g) (ds_Road_send g) := by
  rintro W xs M Q E - ⟨a, u, dl, sent, ws, q, time, rfl, rd, hne, hw, hdl, qq⟩
  show lS W (t_Road_send g W) [some (.ref a), some (.str q), some (.int time), none] M _ _
  unfold t_Road_send
  have hlen : 0 < dl.length := List.length_pos_iff.mpr hne
  have hlt : sent % dl.length < dl.length := Nat.mod_lt _ hlen
  have hget : dl[sent % dl.length]? = some dl[sent % dl.length] := List.getElem?_eq_getElem hlt
  walk_at "d"
  refine l_fld fl 0 rfl ?_
  walk_at "d"
  refine ⟨a, _, _, rfl, rd.ob, rfl, ?_⟩
  walk_at "d"
  refine l_fld fl 1 rfl ?_
  walk_at "d"
  refine ⟨a, _, _, rfl, rd.ob, rfl, ?_⟩
  walk_at "d"
  refine l_fld fl 0 rfl ?_
  walk_at "d"
  refine ⟨a, _, _, rfl, rd.ob, rfl, ?_⟩
  walk_at "d"
  refine c_len (.inl isL_lst) ?_
  rw [List.length_map]
  refine r_mod (by omega) ?_
  rw [← Int.natCast_emod]
  refine r_ix (d := dvD dl[sent % dl.length]) (.inl isL_lst) (at_nat (by rw [List.getElem?_map, hget]; rfl)) ?_
  unfold sendW at qq
  rw [hget] at qq
  generalize dl[sent % dl.length] = dv at qq
  walk_at "d"
  refine s_fld fl 1 rfl ?_
  walk_at "d"
  refine l_fld fl 1 rfl ?_
  walk_at "d"
  refine ⟨a, _, _, rfl, rd.ob, rfl, ?_⟩
  walk_at "d"
  refine ⟨a, _, rfl, rd.ob, ?_⟩
  have us2 : ∀ c, upM M a c u = some (.lst (ws.map flD)) := fun c => by rw [upM_ne rd.ne.symm]; exact rd.us
  cases dv with
  | none =>
    walk_at "d"
    refine br_nf' ?_
    walk_at "d"
    refine l_fld fl 1 rfl ?_
    walk_at "d"
    refine ⟨a, _, _, rfl, upM_same, rfl, ?_⟩
    have e := upM_id (us2 (rdC g dl (sent + 1) u))
    have qq : Q (D.int ((sent + 1 : Nat) : Int)) (upM (upM M a (rdC g dl (sent + 1) u)) u (Cell.lst (List.map flD ws))) := qq
    rw [e] at qq
    exact qq
  | some d =>
    walk_at "d"
    refine br_nt' ?_
    walk_at "d"
    refine l_bmL (l_fld fl 2 rfl ?_)
    walk_at "d"
    refine ⟨a, _, _, rfl, upM_same, rfl, ⟨_, isL_ref (us2 _)⟩, ?_⟩
    unfold dvD
    walk_at "d"
    refine l_fld fl 1 rfl ?_
    walk_at "d"
    refine ⟨a, _, _, rfl, upM_same, rfl, ?_⟩
    walk_at "d"
    refine m_append (us2 _) (by rw [List.length_map]; omega) ?_
    walk_at "d"
    refine l_fld fl 1 rfl ?_
    walk_at "d"
    refine ⟨a, _, _, rfl, by rw [upM_ne rd.ne, upM_same], rfl, ?_⟩
    have e : List.map flD (ws ++ [⟨time + d, sent + 1, q⟩]) = ws.map flD ++ [.tup [.int (time + d), .int ((sent : Int) + 1), .str q]] := by
      rw [List.map_append]
      rfl
    have qq := qq
    simp only [e] at qq
    exact qq
theorem d_Road_due {g : G} (fl : Fld g.K g.cR ["delays", "sent", "under_way"]) : Keeps 2 nm_Road_due (t_Road_due g) (ds_Road_due g) := by
  rintro W xs M Q E - ⟨a, u, dl, sent, ws, time, rfl, rd, hw, qq⟩
  show lS W (t_Road_due g W) [some (.ref a), some (.int time), none, none, none, none, none] M _ _
  unfold t_Road_due
  walk_at "d"
  refine l_lcP (wip_name (by decide)) ?_
  walk_at "d"
  refine l_fld fl 2 rfl ?_
  walk_at "d"
  refine ⟨a, _, _, rfl, rd.ob, rfl, _, isL_ref rd.us, flKeep (fun w => decide (w ≤ time)), by rw [List.length_map]; omega, fun _ k => (isL_ref rd.us).kn k, ?_, ?_⟩
  · intro d hd M' k
    obtain ⟨f, hf, rfl⟩ := mem_map' hd
    walk_at "d"
    unfold flD
    refine r_ix (ds := [.int f.when, .int (f.num : Int), .str f.q]) (.inr rfl) rfl ?_
    walk_at "d"
    refine ⟨fun h => ?_, fun h => ?_⟩
    · walk_at "d"
      exact if_pos h
    · exact ⟨rfl, if_neg (fun z => Bool.false_ne_true (h.symm.trans z))⟩
  · rw [filterMap_fl]
    walk_at "d"
    refine c_sort isL_lst (flOk _) ?_
    rw [srt_fl]
    have hfl := List.length_filter_le (comes time) ws
    walk_at "d"
    refine s_fld fl 2 rfl ?_
    refine l_lcM (wip_name (by decide)) ?_
    walk_at "d"
    refine l_fld fl 2 rfl ?_
    walk_at "d"
    refine ⟨a, _, _, rfl, rd.ob, rfl, _, isL_ref rd.us, flKeep (fun w => decide (time < w)), by rw [List.length_map]; omega, fun _ k => (isL_ref rd.us).kn k, ?_, fun v hv => ?_⟩
    · intro d hd M' k
      obtain ⟨f, hf, rfl⟩ := mem_map' hd
      walk_at "d"
      unfold flD
      refine r_ix (ds := [.int f.when, .int (f.num : Int), .str f.q]) (.inr rfl) rfl ?_
      walk_at "d"
      refine ⟨fun h => ?_, fun h => ?_⟩
      · walk_at "d"
        exact if_pos h
      · exact ⟨rfl, if_neg (fun z => Bool.false_ne_true (h.symm.trans z))⟩
    · rw [filterMap_fl]
      have hva := ne_cell rd.ob hv
      walk_at "d"
      refine ⟨a, _, rfl, up_keep rd.ob hv, ?_⟩
      walk_at "d"
      refine l_lcP (wip_tup (wip_cons (wip_name (by decide)) (wip_cons (wip_name (by decide)) (wip_cons (wip_name (by decide)) wip_nil)))) ?_
      walk_at "d"
      refine ⟨_, isL_lst, nqOf, by rw [List.length_map, sortF_len]; exact Nat.le_trans hfl (by omega), fun M' k => isL_lst, ?_, ?_⟩
      · intro d hd M' k
        obtain ⟨f, hf, rfl⟩ := mem_map' hd
        unfold flD
        walk_at "d"
        rfl
      · rw [filterMap_nq]
        exact qq v hv


/-! ### plain laws of texts and ranks -/
theorem hasT_ex {m w : List Nat} : hasT w m = true ↔ ∃ a b, m = a ++ w ++ b := by
  rw [hasT_iff]
  constructor
  · rintro ⟨k, h⟩
    unfold isAt at h
    rw [Bool.and_eq_true] at h
    have h2 : (m.drop k).take w.length = w := eq_of_beq h.2
    refine ⟨m.take k, (m.drop k).drop w.length, ?_⟩
    conv => lhs; rw [← List.take_append_drop k m, ← List.take_append_drop w.length (m.drop k), h2]
    rw [List.append_assoc]
  · rintro ⟨a, b, rfl⟩
    refine ⟨a.length, ?_⟩
    unfold isAt
    rw [Bool.and_eq_true]
    refine ⟨decide_eq_true (by rw [List.length_append, List.length_append]; omega), ?_⟩
    rw [List.append_assoc, List.drop_left, List.take_left]
    exact beq_self_eq_true _
theorem hasT_self (w : List Nat) : hasT w w = true := hasT_ex.mpr ⟨[], [], by simp⟩
theorem hasT_trans {a b c : List Nat} (h : hasT a b = true) (h2 : hasT b c = true) : hasT a c = true := by
  obtain ⟨x, y, rfl⟩ := hasT_ex.mp h
  obtain ⟨u, v, rfl⟩ := hasT_ex.mp h2
  exact hasT_ex.mpr ⟨u ++ x, y ++ v, by simp⟩
theorem hasT_len {a b : List Nat} (h : hasT a b = true) : a.length ≤ b.length := by
  obtain ⟨x, y, rfl⟩ := hasT_ex.mp h
  rw [List.length_append, List.length_append]
  omega
theorem hasT_eq {a b : List Nat} (h : hasT a b = true) (hl : b.length ≤ a.length) : a = b := by
  obtain ⟨x, y, rfl⟩ := hasT_ex.mp h
  rw [List.length_append, List.length_append] at hl
  have hx : x = [] := List.length_eq_zero_iff.mp (by omega)
  have hy : y = [] := List.length_eq_zero_iff.mp (by omega)
  subst hx
  subst hy
  simp
theorem rank_none {m w : List Nat} : rankF m w = none ↔ hasT w m = false := by
  unfold rankF
  constructor
  · intro h
    by_cases h1 : m = w
    · rw [if_pos h1] at h
      cases h
    rw [if_neg h1] at h
    by_cases h2 : isAt w m 0 = true
    · rw [if_pos h2] at h
      cases h
    rw [if_neg h2] at h
    by_cases h3 : hasT (32 :: w) m = true
    · rw [if_pos h3] at h
      cases h
    rw [if_neg h3] at h
    by_cases h4 : hasT w m = true
    · rw [if_pos h4] at h
      cases h
    · simpa using h4
  · intro h
    have h1 : ¬ m = w := fun z => by
      rw [z, hasT_self] at h
      cases h
    have h2 : ¬ isAt w m 0 = true := fun z => by
      rw [hasT_iff.mpr ⟨0, z⟩] at h
      cases h
    have h3 : ¬ hasT (32 :: w) m = true := fun z => by
      have : hasT w m = true := hasT_trans (hasT_ex.mpr ⟨[32], [], by simp⟩) z
      rw [this] at h
      cases h
    rw [if_neg h1, if_neg h2, if_neg h3, if_neg (by rw [h]; exact Bool.false_ne_true)]
/-! a text folded is folded already -/
def noDbl (t : List Nat) : Prop := ∀ i : Nat, t[i]? = some 32 → t[i + 1]? = some 32 → False
structure nf0 (t : List Nat) : Prop where
  hd : t.head? ≠ some 32
  db : noDbl t
  lo : ∀ c ∈ t, lo1 c = c
theorem lo1_lo1 (c : Nat) : lo1 (lo1 c) = lo1 c := by
  by_cases h : 65 ≤ c ∧ c ≤ 90
  · have e : lo1 c = c + 32 := if_pos h
    rw [e]
    exact if_neg (by omega)
  · have e : lo1 c = c := if_neg h
    rw [e, e]
theorem snoc_ne {t : List Nat} {x : Nat} (h : nf0 t) (hx : x ≠ 32) (hl : lo1 x = x) : nf0 (t ++ [x]) where
  hd := by
    cases t with
    | nil => simpa using hx
    | cons a t => exact h.hd
  db := fun i h1 h2 => by
    have hlt := (List.getElem?_eq_some_iff.mp h2).1
    rw [List.length_append] at hlt
    simp only [List.length_cons, List.length_nil] at hlt
    by_cases z : i + 1 < t.length
    · rw [List.getElem?_append_left (by omega)] at h1 h2
      exact h.db i h1 h2
    · rw [List.getElem?_append_right (by omega), show i + 1 - t.length = 0 by omega] at h2
      exact hx (Option.some.inj h2)
  lo := fun c hc => by
    rcases List.mem_append.mp hc with hc | hc
    · exact h.lo c hc
    · rw [List.mem_singleton.mp hc]
      exact hl
theorem snoc_sp {t : List Nat} (h : nf0 t) (h1 : t ≠ []) (h2 : t.getLast? ≠ some 32) : nf0 (t ++ [32]) where
  hd := by
    cases t with
    | nil => exact absurd rfl h1
    | cons a t => exact h.hd
  db := fun i e1 e2 => by
    have hlt := (List.getElem?_eq_some_iff.mp e2).1
    rw [List.length_append] at hlt
    simp only [List.length_cons, List.length_nil] at hlt
    rw [List.getElem?_append_left (by omega)] at e1
    by_cases z : i + 1 < t.length
    · rw [List.getElem?_append_left (by omega)] at e2
      exact h.db i e1 e2
    · refine h2 ?_
      rw [List.getLast?_eq_getElem?, show t.length - 1 = i by omega]
      exact e1
  lo := fun c hc => by
    rcases List.mem_append.mp hc with hc | hc
    · exact h.lo c hc
    · rw [List.mem_singleton.mp hc]
      rfl
theorem lstep_nf {t : List Nat} (c : Nat) (h : nf0 t) : nf0 (lstep t c) := by
  unfold lstep
  by_cases h1 : c ≠ 32
  · rw [if_pos h1]
    exact snoc_ne h (fun z => h1 (lo1_32.mp z)) (lo1_lo1 c)
  · rw [if_neg h1]
    by_cases h2 : t ≠ [] ∧ t.getLast? ≠ some 32
    · rw [if_pos h2]
      exact snoc_sp h h2.1 h2.2
    · rw [if_neg h2]
      exact h
theorem foldl_nf : ∀ (s t : List Nat), nf0 t → nf0 (s.foldl lstep t)
  | [], _, h => h
  | c :: s, t, h => foldl_nf s _ (lstep_nf c h)
theorem nf0_nil : nf0 [] := ⟨by simp, fun i h => by simp at h, fun c h => absurd h (by simp)⟩
theorem nf0_left {a b : List Nat} (h : nf0 (a ++ b)) : nf0 a where
  hd := by
    cases a with
    | nil => simp
    | cons x a => exact h.hd
  db := fun i h1 h2 => by
    have hlt := (List.getElem?_eq_some_iff.mp h2).1
    exact h.db i (by rw [List.getElem?_append_left (by omega)]; exact h1) (by rw [List.getElem?_append_left hlt]; exact h2)
  lo := fun c hc => h.lo c (List.mem_append_left _ hc)
/-- as folding leaves it -/
structure nf (t : List Nat) : Prop extends nf0 t where
  ls : t.getLast? ≠ some 32
theorem lfold_nf (s : List Nat) : nf (lfold s) := by
  have h := foldl_nf s [] nf0_nil
  unfold lfold lfin
  generalize s.foldl lstep [] = t at h
  by_cases z : t.getLast? = some 32
  · rw [if_pos z]
    obtain ⟨a, rfl⟩ := List.getLast?_eq_some_iff.mp z
    rw [List.dropLast_concat]
    refine ⟨nf0_left h, fun e => ?_⟩
    obtain ⟨b, rfl⟩ := List.getLast?_eq_some_iff.mp e
    refine h.db b.length ?_ ?_
    · rw [List.getElem?_append_left (by rw [List.length_append]; simp), List.getElem?_append_right (Nat.le_refl _), Nat.sub_self]
      rfl
    · rw [List.getElem?_append_right (by rw [List.length_append]; simp), List.length_append]
      simp
  · rw [if_neg z]
    exact ⟨h, z⟩
theorem fold_nf (s : List Nat) : nf (fold s) := by
  rw [← lfold_fold]
  exact lfold_nf s
theorem foldl_id : ∀ (n : Nat) (t : List Nat), t.length = n → nf0 t → t.foldl lstep [] = t
  | 0, t, hl, _ => by
    obtain rfl := List.length_eq_zero_iff.mp hl
    rfl
  | n + 1, t, hl, h => by
    obtain ⟨a, c, rfl⟩ : ∃ a c, t = a ++ [c] := ⟨t.dropLast, t.getLast (by intro z; rw [z] at hl; cases hl), (List.dropLast_concat_getLast _).symm⟩
    have ha : a.length = n := by
      rw [List.length_append] at hl
      simp only [List.length_cons, List.length_nil] at hl
      omega
    rw [List.foldl_append, foldl_id n a ha (nf0_left h)]
    show lstep a c = a ++ [c]
    unfold lstep
    by_cases h1 : c ≠ 32
    · rw [if_pos h1, h.lo c (by simp)]
    · have h1 : c = 32 := by simpa using h1
      subst h1
      rw [if_neg (by simp), if_pos]
      refine ⟨fun z => ?_, fun z => ?_⟩
      · subst z
        exact h.hd rfl
      · obtain ⟨b, rfl⟩ := List.getLast?_eq_some_iff.mp z
        refine h.db b.length ?_ ?_
        · rw [List.getElem?_append_left (by rw [List.length_append]; simp), List.getElem?_append_right (Nat.le_refl _), Nat.sub_self]
          rfl
        · rw [List.getElem?_append_right (by rw [List.length_append]; simp), List.length_append]
          simp
theorem fold_id {t : List Nat} (h : nf t) : fold t = t := by
  rw [← lfold_fold]
  unfold lfold lfin
  rw [foldl_id _ t rfl h.tonf0, if_neg h.ls]
theorem fold_fold (s : List Nat) : fold (fold s) = fold s := fold_id (fold_nf s)
theorem lfold_all {P : Nat → Prop} {s : List Nat} (h32 : P 32) (h : ∀ c ∈ s, P (lo1 c)) : ∀ c ∈ fold s, P c := by
  rw [← lfold_fold]
  have k : ∀ (s acc : List Nat), (∀ c ∈ s, P (lo1 c)) → (∀ c ∈ acc, P c) → ∀ c ∈ s.foldl lstep acc, P c := by
    intro s
    induction s with
    | nil => intro acc _ h; exact h
    | cons x s ih =>
      intro acc h h2
      rw [List.foldl_cons]
      refine ih _ (fun c hc => h c (List.mem_cons_of_mem _ hc)) ?_
      unfold lstep
      split
      · intro c hc
        rcases List.mem_append.mp hc with hc | hc
        · exact h2 c hc
        · rw [List.mem_singleton.mp hc]
          exact h x List.mem_cons_self
      · split
        · intro c hc
          rcases List.mem_append.mp hc with hc | hc
          · exact h2 c hc
          · rw [List.mem_singleton.mp hc]
            exact h32
        · exact h2
  have k2 := k s [] h (fun c hc => absurd hc (by simp))
  unfold lfold lfin
  split
  · exact fun c hc => k2 c (List.dropLast_subset _ hc)
  · exact k2
theorem okC_lo1 {c : Nat} (h : okC c = true) : okC (lo1 c) = true := by
  unfold okC at h ⊢
  unfold lo1
  simp only [Bool.and_eq_true, decide_eq_true_eq] at h ⊢
  split
  · omega
  · exact h
theorem fold_ok {m : Nat} {s : List Nat} (h : okT m s = true) : okT m (fold s) = true :=
  okT_of (Nat.le_trans (fold_len' s) (okT_len h)) (lfold_all (P := fun c => okC c = true) rfl fun c hc => okC_lo1 (okT_all h c hc))
/-! ### what is told from less -/
theorem triF_fold {q q' : List Nat} (h : fold q = fold q') : triF q = triF q' := by
  funext r
  unfold triF rankP
  rw [h]
theorem bestF_fold {q q' : List Nat} (h : fold q = fold q') (ss : List (List Nat)) (n : Nat) : bestF ss q n = bestF ss q' n := by
  unfold bestF allBest
  rw [triF_fold h]
theorem allBest_fold {q q' : List Nat} (h : fold q = fold q') (ss : List (List Nat)) : allBest ss q = allBest ss q' := by
  unfold allBest
  rw [triF_fold h]
def fits (q r : List Nat) : Bool := hasT (fold q) (fold r)
theorem tri_some {q r : List Nat} {t : Tri} (h : triF q r = some t) : t.2.2 = r ∧ fits q r = true := by
  unfold triF rankP at h
  cases e : rankF (fold r) (fold q) with
  | none =>
    rw [e] at h
    cases h
  | some k =>
    rw [e] at h
    have h' : (k, fold r, r) = t := Option.some.inj h
    refine ⟨by rw [← h'], ?_⟩
    unfold fits
    cases z : hasT (fold q) (fold r) with
    | true => rfl
    | false =>
      rw [rank_none.mpr z] at e
      cases e
theorem tri_none {q r : List Nat} (h : fits q r = false) : triF q r = none := by
  unfold triF rankP
  rw [rank_none.mpr h]
  rfl
theorem tri_fits {q r : List Nat} (h : fits q r = true) : ∃ t, triF q r = some t ∧ t.2.2 = r := by
  cases e : triF q r with
  | none =>
    unfold triF rankP at e
    cases e2 : rankF (fold r) (fold q) with
    | none =>
      have := rank_none.mp e2
      unfold fits at h
      rw [this] at h
      cases h
    | some k =>
      rw [e2] at e
      cases e
  | some t => exact ⟨t, rfl, (tri_some e).1⟩
theorem filterMap_rows (q : List Nat) : ∀ ss : List (List Nat), (ss.filterMap (triF q)).map (·.2.2) = ss.filter (fits q)
  | [] => rfl
  | s :: ss => by
    have ih := filterMap_rows q ss
    rw [List.filterMap_cons, List.filter_cons]
    cases h : fits q s with
    | false =>
      rw [tri_none h]
      exact ih
    | true =>
      obtain ⟨t, e, h2⟩ := tri_fits h
      rw [e, if_pos rfl]
      show t.2.2 :: _ = _
      rw [h2, ih]
theorem allBest_rows (ss : List (List Nat)) (q : List Nat) : (allBest ss q).Perm (ss.filter (fits q)) := by
  unfold allBest
  rw [← filterMap_rows]
  exact (List.mergeSort_perm _ _).map _
/-- of rows among which are all that fit, the best are the same -/
theorem allBest_less {ss ss' : List (List Nat)} {q q' : List Nat} (h : ss'.Perm (ss.filter (fits q'))) (hf : ∀ r, fits q r = true → fits q' r = true) : allBest ss' q = allBest ss q := by
  rw [allBest_perm q h]
  unfold allBest
  have : (ss.filter (fits q')).filterMap (triF q) = ss.filterMap (triF q) := by
    clear h
    induction ss with
    | nil => rfl
    | cons s ss ih =>
      rw [List.filter_cons, List.filterMap_cons]
      cases h : fits q' s with
      | true =>
        rw [if_pos rfl, List.filterMap_cons, ih]
      | false =>
        have h2 : fits q s = false := by
          cases z : fits q s with
          | false => rfl
          | true =>
            rw [hf s z] at h
            cases h
        rw [tri_none h2]
        exact ih
  rw [this]
/-- the best of the best are the best -/
theorem best_best (ss : List (List Nat)) (q : List Nat) (n : Nat) : bestF (bestF ss q n) q n = bestF ss q n := by
  have key : ∀ ts : List Tri, (∀ t ∈ ts, triF q t.2.2 = some t) → (ts.map (·.2.2)).filterMap (triF q) = ts := by
    intro ts
    induction ts with
    | nil => intro _; rfl
    | cons t ts ih =>
      intro h
      rw [List.map_cons, List.filterMap_cons, h t List.mem_cons_self]
      show t :: _ = _
      rw [ih fun t m => h t (List.mem_cons_of_mem _ m)]
  have hT : ∀ t ∈ sortT (ss.filterMap (triF q)), triF q t.2.2 = some t := fun t m => by
    obtain ⟨r, hr, e⟩ := List.mem_filterMap.mp (List.mem_mergeSort.mp m)
    rw [(tri_some e).1]
    exact e
  have e1 : bestF ss q n = ((sortT (ss.filterMap (triF q))).take n).map (·.2.2) := by
    unfold bestF allBest
    rw [List.map_take]
  have hs : sortT ((sortT (ss.filterMap (triF q))).take n) = (sortT (ss.filterMap (triF q))).take n := by
    refine List.mergeSort_of_pairwise (List.Pairwise.take ?_)
    exact List.pairwise_mergeSort (le := leT) (fun a b c => leD_trans _ _ _) (fun a b => leD_total _ _) _
  show (allBest (bestF ss q n) q).take n = bestF ss q n
  rw [e1]
  unfold allBest
  rw [key _ fun t m => hT t (List.mem_of_mem_take m), hs, ← List.map_take, List.take_take, Nat.min_self]
/-! ### a set of texts: its table rises and can be walked -/
def txOf (e : Int × Value) : Str := match e.2 with | .str k _ => k | _ => Str.empty
def TxE (P : Program) (w : World) (e : Int × Value) : Prop := ∃ k tk, e.2 = Value.str k tk ∧ e.1 = (PySem.strKind P w).hash k
def SetX (P : Program) (w : World) (h : Heap) (a : Addr) (xs : List Str) (n : Nat) : Prop :=
  ∃ o es ep t, h.get? a = some o ∧ o.ExactSet ∧ o.data = .set es ep t ∧ (∀ e ∈ es.toList, TxE P w e) ∧ (es.toList.map txOf).Nodup ∧ (∀ k, k ∈ xs ↔ k ∈ es.toList.map txOf) ∧
    es.size < scanBound ∧ t.fits es.size = true ∧ es.size = n ∧ Ris t.place.toList ∧ (w.params.followText "set-order" = true ∨ t.led = true)
section
variable {P : Program} {w : World} {h h' : Heap} {a : Addr} {xs : List Str} {n : Nat}
theorem SetX.at (R : SetX P w h a xs n) (k : ∀ o, h.get? a = some o → h'.get? a = some o) : SetX P w h' a xs n := by
  obtain ⟨o, es, ep, t, ho, r⟩ := R
  exact ⟨o, es, ep, t, k o ho, r⟩
theorem SetX.congr {ys : List Str} (R : SetX P w h a xs n) (e : ∀ k, k ∈ ys ↔ k ∈ xs) : SetX P w h a ys n := by
  obtain ⟨o, es, ep, t, ho, hx, hd, g, nd, hm, r⟩ := R
  exact ⟨o, es, ep, t, ho, hx, hd, g, nd, fun k => (e k).trans (hm k), r⟩
theorem tx_elems {l : List (Int × Value)} (g : ∀ e ∈ l, TxE P w e) : ElemsOf (PySem.strKind P w) l := fun e he => by
  obtain ⟨k, tk, h1, h2⟩ := g e he
  exact ⟨⟨k, by rw [h1]; exact strKind_is P w k tk, h2⟩, by rw [h1] <;> rfl⟩
theorem tx_is {e : Int × Value} (g : TxE P w e) (k : Str) : (PySem.strKind P w).is k e.2 = true ↔ txOf e = k := by
  obtain ⟨k0, tk, h1, _⟩ := g
  unfold txOf
  rw [h1]
  constructor
  · intro q
    obtain ⟨t, e⟩ := Value.isStrOf_shape (show Value.isStrOf k (.str k0 tk) = true from q)
    injection e
  · intro q
    subst q
    exact strKind_is P w _ tk
theorem tx_mem {l : List (Int × Value)} (g : ∀ e ∈ l, TxE P w e) (k : Str) : k ∈ l.map txOf ↔ ∃ e ∈ l, (PySem.strKind P w).is k e.2 = true := by
  rw [List.mem_map]
  constructor
  · rintro ⟨e, he, q⟩
    exact ⟨e, he, (tx_is (g e he) k).2 q⟩
  · rintro ⟨e, he, q⟩
    exact ⟨e, he, (tx_is (g e he) k).1 q⟩
end
section
variable {P : Program} {w : World} {A : Around} {E : Value → Shared → Prop} {s : Shared} {a : Addr} {xs : List Str} {n : Nat}
theorem setX_tail {g : Bool → Sem Unit} (hg : ∀ (b : Bool) (s₁ : Shared) (Q' : Unit → Shared → Prop), Q' () s₁ → wpAny (model P w) A (g b) Q' E s₁)
    {o : Obj} {es : Array (Int × Value)} {ep : Nat} {t : SetTable} (ho : s.heap.get? a = some o) (hex : o.ExactSet) (hd : o.data = .set es ep t)
    {es1 : Array (Int × Value)} {t2 : SetTable} {ys : List Str} (g1 : ∀ e ∈ es1.toList, TxE P w e) (nd1 : (es1.toList.map txOf).Nodup) (m1 : ∀ k, k ∈ ys ↔ k ∈ es1.toList.map txOf)
    (hb1 : es1.size < scanBound) (hf2 : t2.fits es1.size = true) (hr : Ris t2.place.toList) (hl : w.params.followText "set-order" = true ∨ t2.led = true) {wasDummy : Bool} {R : Option Bool → Shared → Prop}
    (hR : ∀ h', Heap.SameBut a s.heap h' → SetX P w h' a ys es1.size → R (some true) { s with heap := h' }) :
    wpAny (model P w) A (do
        storeSet a es1 t2
        if (!wasDummy && t2.tooFull) = true then do
            g (relayAll t2 es1 (SetTable.grown es1.size)).2.2
            storeSet a (relayAll t2 es1 (SetTable.grown es1.size)).1 (relayAll t2 es1 (SetTable.grown es1.size)).2.1
            pure (some true)
          else pure (some true)) R E s := by
  refine wpAny_bind (wpAny_storeSet_of ho hd ?_ (fits_of_scanBound hb1))
  have ho1 := store_at (es' := es1) (t' := t2) ho hd
  have sb1 := Heap.SameBut.update s.heap a (Obj.putSet es1 t2)
  split
  · have pm := relayAll_perm t2 es1 (SetTable.grown es1.size)
    have hf3 := relayAll_fits t2 es1 (SetTable.grown es1.size)
    have hr3 := relayAll_ris t2 es1 (SetTable.grown es1.size)
    have hl3 := relayAll_led t2 es1 (SetTable.grown es1.size)
    generalize relayAll t2 es1 (SetTable.grown es1.size) = Z at pm hf3 hr3 hl3 ⊢
    obtain ⟨es2, t3, gave⟩ := Z
    dsimp only at pm hf3 hr3 hl3 ⊢
    have hsz : es2.size = es1.size := by rw [← Array.length_toList, pm.length_eq, Array.length_toList]
    have hb2 : es2.size < scanBound := by rw [hsz]; exact hb1
    refine wpAny_bind (hg _ _ _ ?_)
    refine wpAny_bind (wpAny_storeSet_of ho1 rfl ?_ (fits_of_scanBound hb2))
    have ho2 := store_at (es' := es2) (t' := t3) ho1 rfl
    refine wpAny_pure (hR _ (sb1.trans (Heap.SameBut.update _ a _)) ?_)
    exact ⟨_, es2, _, t3, ho2, hex, rfl, fun e he => g1 e (pm.mem_iff.mp he), (pm.map txOf).nodup_iff.mpr nd1, fun k => (m1 k).trans (pm.map txOf).mem_iff.symm, hb2, hf3, hsz, hr3,
      hl.imp id fun z => by rw [hl3]; exact z⟩
  · exact wpAny_pure (hR _ sb1 ⟨_, es1, _, t2, ho1, hex, rfl, g1, nd1, m1, hb1, hf2, rfl, hr, hl⟩)
theorem setX_hashed {k : Str} {tk : Tok} {Q : Bool → Shared → Prop} (R : SetX P w s.heap a xs n) (room : n + 1 < scanBound)
    (hQ : ∀ b h' m, Heap.SameBut a s.heap h' → SetX P w h' a (xs ++ [k]) m → m ≤ n + 1 → Q b { s with heap := h' }) :
    wpAny (model P w) A (setAddHashed a (.str k tk) ((PySem.strKind P w).hash k)) Q E s := by
  obtain ⟨o, es, ep, t, ho, hex, hd, g, nd, hm, hb, hf, hn, hr, hl⟩ := R
  have hkey : (PySem.strKind P w).is k (.str k tk) = true := strKind_is P w k tk
  have hsc : (Value.str k tk).scannable = true := rfl
  have hel : ElemsOf (PySem.strKind P w) es.toList := tx_elems g
  unfold setAddHashed setAddHashedIn
  refine wpAny_holding (wpAny_bind (wpAny_setState_of ho hd hf ?_))
  dsimp only
  rw [byScan_of hsc hb hel]
  simp only [↓reduceIte]
  unfold setAddByScan
  refine wpAny_bind ?_
  refine wpAny_bind (wpAny_rule ?_)
  refine wpAny_bind (wpAny_setScan_of hkey ho hd hf hel ?_)
  cases hfi : List.findIdx? (fun e => (PySem.strKind P w).is k e.2) es.toList with
  | some j =>
    dsimp only
    obtain ⟨hj, pj, _⟩ := List.findIdx?_eq_some_iff_getElem.mp hfi
    have hSk : k ∈ xs := (hm k).2 ((tx_mem g k).2 ⟨es.toList[j], List.getElem_mem hj, pj⟩)
    refine wpAny_pure (wpAny_pure ?_)
    exact hQ _ s.heap n (Heap.SameBut.refl a s.heap) ⟨o, es, ep, t, ho, hex, hd, g, nd, fun i => by
      rw [List.mem_append, List.mem_singleton, ← hm i]
      exact ⟨fun z => z.elim id (fun e => e ▸ hSk), .inl⟩, hb, hf, hn, hr, hl⟩ (Nat.le_succ _)
  | none =>
    dsimp only
    have hnk : k ∉ es.toList.map txOf := fun z => by
      obtain ⟨e, he, q⟩ := (tx_mem g k).1 z
      have c := List.findIdx?_eq_none_iff.mp hfi e he
      rw [q] at c
      cases c
    have hgw : ∀ (b : Bool) {s₁ : Shared} {Q' : Unit → Shared → Prop}, Q' () s₁ → wpAny (model P w) A (match b with | true => rule "set.scan.the-table-gave-way" | false => pure ()) Q' E s₁ :=
      fun b s₁ Q' q => by cases b <;> first | exact wpAny_pure q | exact wpAny_rule q
    have pm := layNew_perm t es ((PySem.strKind P w).hash k) (.str k tk)
    have hf1 := layNew_fits t es ((PySem.strKind P w).hash k) (.str k tk)
    have hr1 := layNew_ris t es ((PySem.strKind P w).hash k) (.str k tk) hr
    have hl1 := layNew_led t es ((PySem.strKind P w).hash k) (.str k tk)
    generalize layNew t es ((PySem.strKind P w).hash k) (.str k tk) = Z at pm hf1 hr1 hl1 ⊢
    obtain ⟨es1, t1, wasDummy, gave⟩ := Z
    dsimp only at pm hf1 hr1 hl1 ⊢
    rw [Array.toList_push] at pm
    have pc : es1.toList.Perm (((PySem.strKind P w).hash k, Value.str k tk) :: es.toList) := pm.trans (List.perm_append_singleton _ _)
    have pk : (es1.toList.map txOf).Perm (k :: es.toList.map txOf) := pc.map txOf
    have g1 : ∀ e ∈ es1.toList, TxE P w e := fun e he => by
      rcases List.mem_cons.mp (pc.mem_iff.mp he) with z | z
      · rw [z]; exact ⟨k, tk, rfl, rfl⟩
      · exact g e z
    have nd1 : (es1.toList.map txOf).Nodup := pk.nodup_iff.mpr (List.nodup_cons.mpr ⟨hnk, nd⟩)
    have m1 : ∀ i, i ∈ xs ++ [k] ↔ i ∈ es1.toList.map txOf := fun i => by
      rw [List.mem_append, List.mem_singleton, hm i, pk.mem_iff, List.mem_cons]
      exact Or.comm
    have hsz : es1.size = n + 1 := by rw [← Array.length_toList, pc.length_eq, List.length_cons, Array.length_toList, hn]
    have hb1 : es1.size < scanBound := by rw [hsz]; exact room
    have hled : w.params.followText "set-order" = true ∨ t1.led = true := hl.imp id fun z => by rw [hl1]; exact z
    have fin : ∀ h', Heap.SameBut a s.heap h' → SetX P w h' a (xs ++ [k]) es1.size → Q true { s with heap := h' } := fun h' sb r => hQ _ h' _ sb r (Nat.le_of_eq hsz)
    refine wpAny_bind (hgw _ ?_)
    split
    · refine wpAny_bind ?_
      rw [hashByValue_scannable 8 hsc]
      refine wpAny_pure ?_
      refine setX_tail ?_ ho hex hd g1 nd1 m1 hb1 ?_ ?_ ?_ ?_
      · intro b s₁ Q' q; cases b <;> first | exact wpAny_pure q | exact wpAny_rule q
      · first | (split <;> first | exact hf1 | exact SetTable.fits_plain_off hf1) | exact hf1
      · first | (split <;> exact hr1) | exact hr1
      · first | (split <;> exact hled) | exact hled
      · intro h' sb r; dsimp only; exact wpAny_pure (fin h' sb r)
    · refine wpAny_bind (wpAny_pure ?_)
      simp only [↓reduceIte]
      refine setX_tail ?_ ho hex hd g1 nd1 m1 hb1 hf1 hr1 hled ?_
      · intro b s₁ Q' q; cases b <;> first | exact wpAny_pure q | exact wpAny_rule q
      · intro h' sb r; dsimp only; exact wpAny_pure (fin h' sb r)
theorem setX_new {h : Heap} (ho : h.get? a = some { cls := .type "set", dict := none, data := .set #[] 0 (.fresh 0 0 (!w.params.followText "set-order")) }) : SetX P w h a [] 0 :=
  ⟨_, #[], 0, _, ho, ⟨rfl, rfl, rfl⟩, rfl, (fun e he => by simp at he), (by simp), (fun k => by simp), (by decide), (by rfl), rfl, List.Pairwise.nil, by
    show _ ∨ (!w.params.followText "set-order") = true
    cases w.params.followText "set-order"
    · exact .inr rfl
    · exact .inl rfl⟩
theorem setX_loop {I : Addr} {fp wr : List Addr} {G : Array GenState → Array GenState → Prop} {n : Nat} {Pv : Nat → Value → Prop} {St : Nat → Shared → Prop} {R : Result → Shared → Prop}
    (W : WalksS P w A.in1 I fp wr G n Pv St) (S : Addr) (hSf : S ∉ fp) (ns : List Str) (hn : n = ns.length) (hb : ns.length + 1 < scanBound) (hval : ∀ i v, Pv i v → ∃ k t, ns[i]? = some k ∧ v = .str k t) :
    ∀ (k i : Nat) (s : Shared), n - i = k → i ≤ n → St i s → (∃ c, c ≤ i ∧ SetX P w s.heap S (ns.take i) c) →
      (∀ s' c, Moved (S :: wr) G s s' → c ≤ n → SetX P w s'.heap S ns c → R (.ok (.ret .none)) s') →
      codeAny (model P w) A (.builtin "set.update.loop" ⟨[.ref S, .ref I], []⟩) R s := by
  have hSw : S ∉ wr := fun h => hSf (W.sub _ h)
  have hsub : ∀ b ∈ wr, b ∈ S :: wr := fun b hb => List.mem_cons_of_mem _ hb
  intro k
  induction k with
  | zero =>
    intro i s hk' hi hst ⟨c, hc, hS⟩ hR
    have hin : i = n := by omega
    subst hin
    refine codeAny_builtin PyProof.Rows.F.entry_set_update_loop ?_
    rw [Around.under_plainId PyProof.Rows.F.plain_set_update_loop _]
    show wpAny _ A.in1 (pyNext (.ref I) >>= _) _ _ s
    refine wpAny_bind (W.done s _ _ hst fun s' hm => ?_)
    show wpAny _ A.in1 (ret Value.none) _ _ s'
    have e : ns.take i = ns := List.take_of_length_le (by omega)
    rw [e] at hS
    exact wpAny_pure (hR s' c (hm.mono hsub) hc (hS.at fun o e => hm.heap S o hSw e))
  | succ k ih =>
    intro i s hk' hi hst ⟨c, hc, hS⟩ hR
    have hlt : i < n := by omega
    refine codeAny_builtin PyProof.Rows.F.entry_set_update_loop ?_
    rw [Around.under_plainId PyProof.Rows.F.plain_set_update_loop _]
    show wpAny _ A.in1 (pyNext (.ref I) >>= _) _ _ s
    refine wpAny_bind (W.item i s _ _ hlt hst fun v s' hP hst' hm => ?_)
    obtain ⟨z, t, hz, rfl⟩ := hval i v hP
    have hS' : SetX P w s'.heap S (ns.take i) c := hS.at fun o e => hm.heap S o hSw e
    show wpAny _ A.in1 (holding [Value.str z t] (setAdd S (.str z t)) >>= _) _ _ s'
    refine wpAny_bind (wpAny_holding ?_)
    unfold setAdd
    refine wpAny_holding ?_
    refine wpAny_bind ((PySem.strKind P w).pyHash (k := z) (strKind_is _ _ _ _) ?_)
    refine setX_hashed (s := { s' with toks := s'.toks + 1 }) hS' (by omega) fun _ h' m hsb hS2 hm2 => ?_
    have hS3 : SetX P w h' S (ns.take (i + 1)) m := hS2.congr fun j => by
      rw [List.take_add_one, hz] <;> rfl
    refine wpAny_pure ⟨plainId_quiet PyProof.Rows.F.plain_set_update_loop _, ih (i + 1) _ (by omega) hlt (W.frame _ s' _ _ hst' (Nat.le_succ _) fun b hb o e => ?_) ⟨_, by omega, hS3⟩ fun s'' c2 hm'' hc'' hS'' => ?_⟩
    · rw [hsb.2 b (fun h : b = S => hSf (by rw [← h]; exact hb))]; exact e
    · refine hR s'' c2 (Moved.trans W.gtrans ((hm.mono hsub).then_heap (Nat.le_succ _) fun b o hb e => ?_) hm'') hc'' hS''
      rw [hsb.2 b (fun h : b = S => hb (by rw [h]; exact List.mem_cons_self))]; exact e
set_option maxRecDepth 100000 in
set_option maxHeartbeats 3200000 in
theorem call_set_texts {l : Addr} {items : Array Value} (ns : List Str) {Q : Value → Shared → Prop} (hh : A.handled = none) (hl : s.heap.IsList l items) (hit : StrsAre items.toList ns) (hb : ns.length + 1 < scanBound)
    (h : ∀ (h' : Heap) (tk c : Nat), SetX P w h' s.heap.objs.size ns c → c ≤ ns.length → (∀ b o, s.heap.get? b = some o → h'.get? b = some o) → Q (.ref s.heap.objs.size) { s with heap := h', toks := tk }) :
    wpAny (model P w) A (call (.type "set") [.ref l]) Q E s := by
  have hisz : items.size = ns.length := by rw [← StrsAre.len_eq hit, Array.length_toList]
  obtain ⟨c, tl, hmro⟩ := F.called_set.mro
  have hmade := F.called_set.made
  have hsub := F.called_set.sub
  refine wpAny_call (codeAny_of_tree ?_)
  show wpAny _ _ (callAny (.type "set") _) _ _ _
  refine wpAny_pure ⟨Code.quiet_builtin _ (by decide +kernel), codeAny_builtin PySem.F.entry_type_call ?_⟩
  rw [Around.under_plain (weight_type_call_type "set" [.ref l] []) rfl]
  have h1 := F.called_set.notType
  have h2 := F.called_set.canCreate
  have hct := F.typeCall_set_1 (.ref l)
  repeat (any_goals (first | assumption | wp_step))

  refine codeAny_mono (code_set_led1 (.ref l) (E := E) (Q₁ := fun obj s₁ => obj = .ref s.heap.objs.size ∧ s₁ = { s with heap := s.heap.push { cls := .type "set", dict := none, data := .set #[] 0 (.fresh 0 0 (!w.params.followText "set-order")) } }) ⟨rfl, rfl⟩) fun r s₁ hr => ?_
  cases r with
  | error e => exact hr
  | ok fl =>
    cases fl with
    | ret obj =>
      obtain ⟨rfl, rfl⟩ := hr
      have hS : (s.heap.push { cls := .type "set", dict := none, data := .set #[] 0 (.fresh 0 0 (!w.params.followText "set-order")) }).get? s.heap.objs.size = some { cls := .type "set", dict := none, data := .set #[] 0 (.fresh 0 0 (!w.params.followText "set-order")) } := Heap.get?_push_size _ rfl
      have hT : Shared.TypeIs { s with heap := s.heap.push { cls := .type "set", dict := none, data := .set #[] 0 (.fresh 0 0 (!w.params.followText "set-order")) } } (.ref s.heap.objs.size) "set" := ⟨_, hS, rfl⟩
      have hli := F.called_set.init.lookup
      have hbi := F.called_set.init.bind (.ref s.heap.objs.size)
      repeat (any_goals (first | assumption | wp_step))

      refine codeAny_mono (codeAny_call_builtin (R := wants (fun r s₂ => r = .none ∧ ∃ h' tk c, s₂ = { s with heap := h', toks := tk } ∧ SetX P w h' s.heap.objs.size ns c ∧ c ≤ ns.length ∧
          (∀ b o, s.heap.get? b = some o → h'.get? b = some o)) E) F.called_set.init.plain F.entry_set_init (check_set_init_1 hT ?_)) fun r₂ s₂ hr₂ => ?_
      · obtain ⟨ol, hol, hcl, nl, hdl⟩ := hl
        obtain ⟨ocls, odict, odata, oslots⟩ := ol
        simp only at hcl hdl
        subst hcl; subst hdl
        have hol' : (s.heap.push { cls := .type "set", dict := none, data := .set #[] 0 (.fresh 0 0 (!w.params.followText "set-order")) }).get? l = some { cls := .type "list", dict := odict, data := .seq items nl, slots := oslots } := Heap.get?_push_of_some _ hol
        have hsls := F.sub_list_set
        have hslf := F.sub_list_frozenset
        have hne : (Value.type "list" == Value.type "dict") = false := by decide
        have hl1 : (s.heap.push { cls := .type "set", dict := none, data := .set #[] 0 (.fresh 0 0 (!w.params.followText "set-order")) }).IsList l items := ⟨_, hol', rfl, nl, rfl⟩
        unfold Builtin.«set.__init__» noKeywords Builtin.Frozenset.updateFrom
        generalize hPI : pyIter = PI
        wp_walk
        subst hPI

        refine wpAny_pyIter_list hl1 ?_
        refine wpAny_bind (wpAny_runValue ?_)
        have hlS : l < s.heap.objs.size := Heap.lt_size hol
        have hh3 : A.in1.in1.in1.handled = none := by simp [hh]
        have hneI : l ≠ (s.heap.push { cls := .type "set", dict := none, data := .set #[] 0 (.fresh 0 0 (!w.params.followText "set-order")) }).objs.size := by
          rw [Heap.size_push]; exact Nat.ne_of_lt (Nat.lt_succ_of_lt hlS)
        have hSf : s.heap.objs.size ∉ [(s.heap.push { cls := .type "set", dict := none, data := .set #[] 0 (.fresh 0 0 (!w.params.followText "set-order")) }).objs.size, l] := by
          rw [Heap.size_push]; simp only [List.mem_cons, List.mem_singleton, List.not_mem_nil, or_false, not_or]
          exact ⟨Nat.ne_of_lt (Nat.lt_succ_self _), Nat.ne_of_gt hlS⟩
        have hval : ∀ (i : Nat) (v : Value), items[i]? = some v → ∃ k t, ns[i]? = some k ∧ v = .str k t := fun i v hv => by
          obtain ⟨y, t, e, q⟩ := PyProof.Rows.StrsAre.item hit i v (by rw [Array.getElem?_toList]; exact hv)
          exact ⟨y, t, q, e⟩
        refine setX_loop ((Walks.list hh3 _ l hneI items).toS) s.heap.objs.size
          hSf ns hisz hb hval (items.size - 0) 0 _ (by omega) (Nat.zero_le _)
          ⟨⟨_, Heap.get?_push_size _ rfl, rfl, rfl⟩, (hl1.push _)⟩ ?hS0 ?hR
        case hS0 =>
          have hget : ((s.heap.push { cls := .type "set", dict := none, data := .set #[] 0 (.fresh 0 0 (!w.params.followText "set-order")) }).push { cls := .type "list_iterator", data := .fields #[.ref l, .int 0 0] }).get? s.heap.objs.size
              = some { cls := .type "set", dict := none, data := .set #[] 0 (.fresh 0 0 (!w.params.followText "set-order")) } := Heap.get?_push_of_some _ hS
          exact ⟨0, Nat.le_refl 0, setX_new hget⟩
        case hR =>
          intro s' c' hm hc' hS'
          obtain ⟨h', g2, d', tk', os'⟩ := s'
          have eg : g2 = s.gens := hm.gens
          have ed : d' = s.drawn := hm.drawn
          have eo : os' = s.os := hm.os
          subst eg; subst ed; subst eo
          show wpAny _ _ _ _ _ _
          refine wpAny_pure ?_
          show wpAny _ _ (ret Value.none) _ _ _
          rw [hisz] at hc'
          refine wpAny_pure ⟨rfl, h', tk', c', rfl, hS', hc', fun b o e => ?_⟩
          have hb0 : b < s.heap.objs.size := Heap.lt_size e
          have hb1 : b ≠ s.heap.objs.size := Nat.ne_of_lt hb0
          have hb2 : b ≠ (s.heap.push { cls := .type "set", dict := none, data := .set #[] 0 (.fresh 0 0 (!w.params.followText "set-order")) }).objs.size := by
            rw [Heap.size_push]; exact Nat.ne_of_lt (Nat.lt_succ_of_lt hb0)
          exact hm.heap b o (by simp only [List.mem_cons, List.mem_singleton, List.not_mem_nil, or_false, not_or]; exact ⟨hb1, hb2⟩) (Heap.get?_push_of_some _ (Heap.get?_push_of_some _ e))

      · cases r₂ with
        | error e => exact hr₂
        | ok fl₂ =>
          cases fl₂ with
          | ret r =>
            obtain ⟨rfl, h', tk, c, rfl, hS', hc', hk'⟩ := hr₂
            repeat (any_goals (first | assumption | wp_step))
            exact h _ _ _ hS' hc' hk'
          | _ => exact hr₂.elim
    | _ => exact hr.elim
end
/-! ### as things of the walk -/
def SetTx (P : Program) (w : World) (a : Addr) (xs : List Str) : HO := .ext fun h => ∃ c, c ≤ xs.length ∧ SetX P w h a xs c
theorem strs_of_valsS : ∀ {xs : List Str} {us : List Value}, Vals (xs.map V.str) us → StrsAre us xs
  | [], _, r => by cases r; exact .nil
  | x :: xs, _, r => by
    cases r with
    | cons r1 r2 =>
      obtain ⟨t, rfl⟩ := r1
      exact .cons _ t (strs_of_valsS r2)
def rSetTx (P : Program) (w : World) (K : PySem.W.Frag) : List V → Hp → VK → Prop := fun xs H Q => ∃ (p : Addr) (ts : List Str), xs = [.ref p] ∧ SqL K H p (ts.map V.str) ∧ ts.length ≤ 1000 ∧ ∀ a, H a = none → Q (.ref a) (upd H a (SetTx P w a ts))
def rSortTx (P : Program) (w : World) : List V → Hp → VK → Prop := fun xs H Q => ∃ (a : Addr) (ts : List Str), xs = [.ref a] ∧ H a = some (SetTx P w a ts) ∧ ts.length ≤ 1000 ∧
  ∀ zs : List Str, zs.Nodup → (∀ k, k ∈ zs ↔ k ∈ ts) → zs.Pairwise (fun x y => x.cps.toList ≤ y.cps.toList) → ∀ l, H l = none → Q (.ref l) (upd H l (.lst (zs.map V.str)))
section
variable {Y : Cx}
theorem cr_setTx (hc : Y.calm = true) : CallR Y (.type "set") (rSetTx Y.prog Y.w Y.K) := by
  intro pins s σ H xs us Q I r h
  obtain ⟨p, ts, rfl, hs, hn, q⟩ := h
  obtain ⟨u, rfl, ru⟩ := vals1 r
  obtain rfl : u = Value.ref p := ru
  obtain ⟨its, rv, hl, hlen⟩ := I.list hs
  have hi : StrsAre its.toArray.toList ts := strs_of_valsS rv
  refine call_set_texts ts (I.ok.hd hc) hl.isList hi (by unfold scanBound; omega) fun h' tk c R1 hcn k => ?_
  refine ⟨.ref _, upd H s.heap.objs.size (SetTx Y.prog Y.w s.heap.objs.size ts), I.laid (t' := tk) k (Nat.le_refl _) ?_, rfl, q _ (I.hok.fresh (Nat.le_refl _))⟩
  have ⟨o, _, _, _, ho, _⟩ := R1
  exact ⟨⟨c, hcn, R1⟩, ⟨o, ho⟩, fun h1 h2 ⟨c2, l2, p2⟩ k2 => ⟨c2, l2, SetX.at p2 k2⟩⟩
theorem each_strs : ∀ {ks : List Str} {us : List Value}, StrsAre us ks → PySem.W.EachIs (fun u (k : Str) => RelV (.str k) u) us ks
  | _, _, .nil => .nil
  | _, _, .cons k t r => .cons ⟨t, rfl⟩ (each_strs r)
theorem strs_each : ∀ {ks : List Str} {us : List Value}, PySem.W.EachIs (fun u (k : Str) => RelV (.str k) u) us ks → Vals (ks.map V.str) us
  | _, _, .nil => .nil
  | _, _, .cons r t => .cons r (strs_each t)
theorem strs_all : ∀ (l : List Value), (∀ v ∈ l, ∃ k tk, v = Value.str k tk) → StrsAre l (l.map fun v => txOf (0, v))
  | [], _ => .nil
  | v :: l, h => by
    obtain ⟨k, tk, rfl⟩ := h v List.mem_cons_self
    exact .cons k tk (strs_all l fun u hu => h u (List.mem_cons_of_mem _ hu))
theorem cr_sortTx (hu : Y.A.units + 64 < cLine) (hc : Y.calm = true) : CallR Y (.builtin "sorted") (rSortTx Y.prog Y.w) := by
  intro pins s σ H xs us Q I r h
  obtain ⟨a, ts, rfl, ha, hlt, q⟩ := h
  obtain ⟨u, rfl, ru⟩ := vals1 r
  obtain rfl : u = Value.ref a := ru
  obtain ⟨⟨c, hcn, o, es, ep, t, ho, hex, hd, g, nd, hm, hb, hf, hn, hr, hl⟩, _, _⟩ := I.hok a _ ha
  refine Calls.call_function_entry kind_sorted plain_sorted entry_sorted (args_sorted1 _) ?_
  show wpAny _ _ (Builtin.«sorted» ⟨[.ref a], []⟩) _ _ _
  unfold Builtin.«sorted»
  refine wpAny_bind (m := checkCount "sorted" 1 1 _) (wpAny_pure ?_)
  refine wpAny_bind (collect_set (A := Y.A.in1) (I.ok.hd hc) ⟨o, ho, hex.1, hd⟩ hf hb hr hl fun s1 vs k1 hz g1 o1 pm => ?_)
  have hvl : vs.length = c := by rw [pm.length_eq, List.length_map, Array.length_toList]; exact hn
  have hI : StrsAre vs (vs.map fun v => txOf (0, v)) := strs_all vs fun v hv => by
    obtain ⟨e, he, q⟩ := List.mem_map.mp (pm.mem_iff.mp hv)
    obtain ⟨k, tk, h1, _⟩ := g e he
    exact ⟨k, tk, by rw [← q]; exact h1⟩
  have pk : (vs.map fun v => txOf (0, v)).Perm (es.toList.map txOf) := by
    have q := pm.map fun v => txOf (0, v)
    rw [List.map_map] at q
    exact q
  generalize hks : (vs.map fun v => txOf (0, v)) = ks at hI pk
  have hkl : ks.length = c := by rw [← hks, List.length_map]; exact hvl
  have hz2 : ks.length ≤ sizeLine := by rw [hkl, sizeLine_eq]; omega
  refine wpAny_bind (wpAny_newList ?_ (by rw [hvl, sizeLine_eq]; omega))
  have hoL : (s1.heap.push (seqObj "list" vs.toArray 0)).get? s1.heap.objs.size = some (seqObj "list" vs.toArray 0) := Heap.get?_push_size _ rfl
  have er := each_strs hI
  refine wpAny_bind (wpAny_holding (PySem.W.list_sort_data (s := { s1 with heap := s1.heap.push (seqObj "list" vs.toArray 0) }) (enc := PyData.str) hoL er (er.mono fun u k ⟨t, e⟩ => ⟨_, by rw [e]; exact Reads.str k t, ?_⟩) (PySem.W.AllAlike.of fun _ _ => rfl) (PySem.W.Sortable.others fun _ => ⟨(fun z => nomatch z), (fun _ z => nomatch z)⟩) hz2 (fun b _ => ?_) fun out h1 h2 => ?_))
  · exact List.not_mem_nil
  · show Y.A.in1.units + 1 + 0 < cLine
    have : Y.A.in1.units = Y.A.units + 1 := rfl
    omega
  · have hv2 := strs_each h2
    obtain ⟨c3, hc3⟩ := PyProof.Rows.sortedHeap_at (vs := vs) (out := out.toArray) hoL
    have pz := List.mergeSort_perm ks (PySem.W.dataLe false PyData.str)
    have hp : (ks.mergeSort (PySem.W.dataLe false PyData.str)).Pairwise (fun x y => x.cps.toList ≤ y.cps.toList) := by
      have tot := PySem.W.sortLe_total (listOrd itemOrd) false fun b : Str => PySem.W.keyToks (PyData.str b)
      have p0 := List.pairwise_mergeSort (le := PySem.W.dataLe false PyData.str) (fun a b c => tot.trans a b c) (fun a b => by
        rcases tot.total a b with h | h
        · rw [show PySem.W.dataLe false PyData.str a b = true from h]; rfl
        · rw [show PySem.W.dataLe false PyData.str b a = true from h, Bool.or_true]) ks
      refine p0.imp fun {x y} h => ?_
      rw [show PySem.W.dataLe false PyData.str = _ from PySem.W.dataLe_str (fun b : Str => b)] at h
      exact of_decide_eq_true h
    have hm2 : ∀ k, k ∈ ks.mergeSort (PySem.W.dataLe false PyData.str) ↔ k ∈ ts := fun k => by rw [pz.mem_iff, pk.mem_iff, ← hm k]
    have hnd2 : (ks.mergeSort (PySem.W.dataLe false PyData.str)).Nodup := pz.nodup_iff.mpr (pk.nodup_iff.mpr nd)
    have hzl : (ks.mergeSort (PySem.W.dataLe false PyData.str)).length = ks.length := List.length_mergeSort _
    generalize hzz : ks.mergeSort (PySem.W.dataLe false PyData.str) = zs at hv2 hp hm2 hnd2 hzl
    have hnn : H s1.heap.objs.size = none := I.hok.fresh hz
    have kk : ∀ b u, s.heap.get? b = some u → (PyProof.Rows.sortedHeap (s1.heap.push (seqObj "list" vs.toArray 0)) s1.heap.objs.size vs out.toArray).get? b = some u := fun b u e => by
      have q := k1 b u e
      have hlt := Heap.lt_size q
      rw [sortedHeap_old (Nat.ne_of_lt hlt) (by rw [size_push']; exact Nat.lt_succ_of_lt hlt)]
      exact Heap.get?_push_of_some _ q
    have J : Inv Y pins σ (upd H s1.heap.objs.size (.lst (zs.map V.str))) { s with heap := PyProof.Rows.sortedHeap (s1.heap.push (seqObj "list" vs.toArray 0)) s1.heap.objs.size vs out.toArray, gens := s1.gens, drawn := s1.drawn, toks := s1.toks } :=
      I.call (ch := []) (Un.laid kk hz hnn) (I.hok.laid kk hz ⟨by rw [List.length_map, hzl]; exact hz2, out, c3, hv2, hc3⟩) (by rw [g1]; exact I.bare) (fun _ z => nomatch z)
    refine wpAny_pure ⟨_, rfl, ?_⟩
    have e : ({ s1 with heap := PyProof.Rows.sortedHeap (s1.heap.push (seqObj "list" vs.toArray 0)) s1.heap.objs.size vs out.toArray } : Shared) = { s with heap := PyProof.Rows.sortedHeap (s1.heap.push (seqObj "list" vs.toArray 0)) s1.heap.objs.size vs out.toArray, gens := s1.gens, drawn := s1.drawn, toks := s1.toks } := by
      cases s1
      cases s
      cases o1
      rfl
    rw [e]
    exact ⟨.ref _, _, J, rfl, q zs hnd2 hm2 hp _ hnn⟩
end
/-! ### sorted(set(e)) -/
def tMo (t : TE) : TE := fun σ H Q => ∃ Q' : VK, t σ H Q' ∧ ∀ v H1, Q' v H1 → Q v H1
def tSrtSet (K : PySem.W.Frag) (te : TE) : TE := fun σ H Q => te σ H fun x H1 => ∃ (p : Addr) (ts : List Str), x = .ref p ∧ SqL K H1 p (ts.map V.str) ∧ ts.length ≤ 1000 ∧
  ∀ zs : List Str, zs.Nodup → (∀ k, k ∈ zs ↔ k ∈ ts) → zs.Pairwise (fun x y => x.cps.toList ≤ y.cps.toList) → ∀ (v : Addr) (O : HO) (l : Addr), H1 v = none → upd H1 v O l = none → Q (.ref l) (upd (upd H1 v O) l (.lst (zs.map V.str)))
section
variable {Y : Cx}
theorem pe_mo {e : Expr} {t : TE} (p : PE Y e t) : PE Y e (tMo t) := ⟨fun pins s σ H Q I ⟨Q', h, m⟩ => wpAny_mono (p.run pins s σ H Q' I h) (fun _ _ ⟨v, H', I', r, q⟩ => ⟨v, H', I', r, m _ _ q⟩) fun _ _ z => z⟩
theorem pe_srtSet {e : Expr} {te : TE} {p1 p2 c1 c2 : Pos} (hu : Y.A.units + 64 < cLine) (hc : Y.calm = true) (g1 : Gl Y "sorted") (m1 : Y.mg "sorted" = none) (v1 : bootBuiltins "sorted" = some (.builtin "sorted")) (g2 : Gl Y "set") (m2 : Y.mg "set" = none) (v2 : bootBuiltins "set" = some (.type "set")) (pe : PE Y e te)
    (h1 : starEach [.Call (.Name "set" p2) [e] [] c2] Y.env = (false, eval (.Call (.Name "set" p2) [e] [] c2) Y.env) :: starEach [] Y.env := by rfl) (h2 : starEach [e] Y.env = (false, eval e Y.env) :: starEach [] Y.env := by rfl) :
    PE Y (.Call (.Name "sorted" p1) [.Call (.Name "set" p2) [e] [] c2] [] c1) (tSrtSet Y.K te) :=
  ⟨fun pins s σ H Q I h => (pe_callB (cr_sortTx hu hc) g1 m1 v1 (pa_cons (pe_callTy (cr_setTx hc) g2 m2 v2 (pa_cons (pe_mo pe) pa_nil h2) (by decide) (by decide) h2) pa_nil h1) (by decide) (by decide) h1).run pins s σ H Q I
    ⟨_, h, fun x H1 ⟨p, ts, ex, hs, hn, q⟩ => ⟨p, ts, by rw [ex], hs, hn, fun a ha => ⟨a, ts, rfl, upd_same, hn, fun zs n m pw l hl => q zs n m pw a _ l ha hl⟩⟩⟩⟩
end
section
variable {W : WX} {X : XD} {ρ : En} {M : Mh} {Q : D → Mh → Prop} {K : PySem.W.Frag}
theorem l_sortSet {te : TE} (h : lE W te ρ M (fun x M1 => ∃ xs : List (List Nat), isL M1 x (xs.map D.str) ∧ xs.length ≤ 1000 ∧ ∀ zs : List (List Nat), zs.Nodup → (∀ k, k ∈ zs ↔ k ∈ xs) → zs.Pairwise (· ≤ ·) → Q (.lst (zs.map D.str)) M1) X) :
    lE W (tSrtSet K te) ρ M Q X := fun σ H k s e p px =>
  h σ H _ s e (fun u x H1 M1 q1 s1 t1 r1 => by
    obtain ⟨xs, hx, hn, q⟩ := q1
    obtain ⟨a, vs, rfl, ha, hr⟩ := isL_sq hx s1 r1
    have ev := hr.to_strs
    refine ⟨a, xs.map S, rfl, ?_, by rw [List.length_map]; exact hn, fun zs hnd hm hp v O l hv hl => ?_⟩
    · rw [List.map_map]
      have z : SqL K H1 a vs := SqL.of ha
      rw [ev] at z
      exact z
    have T := (Stp.new (M := M1) (o := O) hv).trans (Stp.new (M := M1) (o := .lst (zs.map V.str)) hl)
    have ez : zs.map V.str = (zs.map TL.tl).map fun x => V.str (S x) := by
      rw [List.map_map]
      refine List.map_congr_left fun z _ => ?_
      show V.str z = V.str (S (TL.tl z))
      rw [S_tl]
    refine p _ _ _ M1 (q (zs.map TL.tl) ?_ (fun k => ?_) ?_) ((s1.new hv).new hl) (t1.trans T) (.lst (imm_new (s1.new hv) hl) (by rw [ez]; exact RpL.strs _))
    · unfold List.Nodup
      rw [List.pairwise_map]
      exact hnd.imp fun {x y} h e => h (by rw [← S_tl x, ← S_tl y, e])
    · constructor
      · intro z
        obtain ⟨x, hx1, rfl⟩ := List.mem_map.mp z
        obtain ⟨y, hy, e⟩ := List.mem_map.mp ((hm x).mp hx1)
        have : TL.tl x = y := (congrArg TL.tl e).symm.trans (TL.tl_mk y)
        rw [this]
        exact hy
      · intro z
        exact List.mem_map.mpr ⟨S k, (hm _).mpr (List.mem_map_of_mem z), TL.tl_mk k⟩
    · exact List.pairwise_map.mpr hp) px
end

/-! ### try with several clauses, no names -/
def tTryM (K : PySem.W.Frag) (Wo : WX) (l : List (Value × TS)) (tb : WX → TS) : TS := fun D σ H => tb (wMany K Wo D (l.map fun p => (p.1, fun _ _ _ => p.2))) D σ H
section
variable {X : Cx} {body : List Stmt} {h₀ : ExceptHandler} {hds : List ExceptHandler} {l : List (Value × TS)} {pos : Pos} {tb : WX → TS} {Wo : WX}
theorem ps_tryM (hs : X.stack = X.env :: X.outer) (hf : X.env.frame = some X.env.locals) (tk : Takes X Wo)
    (hb : ∀ (W : WX) (pn : List (Addr × Obj)) (xe : Value → Shared → Prop), Takes (X.tr pn xe) W → PassesOwn (model X.prog X.w) X.A X.env xe → PSs (X.tr pn xe) body (tb W))
    (hh : HdsOk X (h₀ :: hds) (l.map fun p => (p.1, fun _ _ _ => p.2))) : PS X (.Try body (h₀ :: hds) [] [] pos) (tTryM X.K Wo l tb) := ps_try_many hs hf tk hb hh
end
/-- the first clause that takes it -/
def hMany (K : PySem.W.Frag) (W : WX) (A : DE) (X : XD) : List (Value × TS) → Addr → En → Mh → Prop
  | [], C, ρ, M => X C ρ M
  | (c, ts) :: r, C, ρ, M => ∃ b, PySem.W.exmOne K (.ref C) c = some b ∧ (b = true → lS W ts ρ M A X) ∧ (b = false → hMany K W A X r C ρ M)
theorem s_tryM {W : WX} {X : XD} {ρ : En} {M : Mh} {A : DE} {K : PySem.W.Frag} {l : List (Value × TS)} {tb : WX → TS} (q : ∀ W', lS W' (tb W') ρ M A (hMany K W A X l)) : lS W (tTryM K W l tb) ρ M A X := fun σ H D s e p px => by
  refine q _ σ H D s e p (fun C σ' ρ' H' M' q1 s1 t1 e1 => ?_)
  have p1 := p.mono t1
  have px1 := px.mono t1
  clear q p px
  induction l with
  | nil => exact px1 C σ' ρ' H' M' q1 s1 (Kn.refl _) e1
  | cons z l ih =>
    obtain ⟨c, ts⟩ := z
    obtain ⟨b, hb, h1, h2⟩ := q1
    exact ⟨b, hb, fun z a ha => h1 z σ' H' D s1 e1 p1 px1, fun z => ih (h2 z)⟩
theorem g_lst {W : WX} {X : XD} {ρ : En} {M : Mh} {K : PySem.W.Frag} {n : Nat} {t : TGs} {x : D} {ds : List D} {QG : En → Mh → Prop} (hx : isL M x ds) (hn : ds.length = n) (h : lGs W t ds ρ M QG X) : lG W (gLst K n t) x ρ M QG X := fun v σ H k s e r p px => by
  obtain ⟨a, vs, rfl, ha, hr⟩ := isL_sq hx s r
  exact ⟨a, vs, rfl, SqL.of ha, by rw [hr.length, hn], h _ σ H k s e hr p px⟩
/-! ### the dict of the words -/
def wordN (z : List Nat) : Option Nat :=
  if z = [112, 117, 116] then some 2 else if z = [107, 101, 121] then some 2 else if z = [114, 117, 98] then some 1 else if z = [116, 105, 99, 107] then some 2 else
  if z = [97, 103, 97, 105, 110] then some 1 else if z = [97, 100, 100] then some 2 else if z = [114, 101, 109, 111, 118, 101] then some 2 else none
structure WordsAt (K : PySem.W.Frag) (w : World) (a : Addr) : Prop where
  ex : ∃ es n, K.lookup a = some ⟨.type "dict", none, .dict es n, #[]⟩ ∧ PySem.W.KeysLit w.params es.toList ∧ (a == sysModules) = false ∧
    ∀ z : Str, ∃ r : Option Value, PySem.W.nsIn K a z = some r ∧ (wordN (TL.tl z) = none → r = none) ∧ ∀ n, wordN (TL.tl z) = some n → ∃ t, r = some (.int (n : Int) t)
def rNinW (a : Addr) : R2 := fun x y H Q => ∃ z : Str, x = .str z ∧ y = .ref a ∧ Q (.bl (!(wordN (TL.tl z)).isSome)) H
def rIxW (a : Addr) : R2 := fun x y H Q => ∃ (z : Str) (n : Nat), x = .ref a ∧ y = .str z ∧ wordN (TL.tl z) = some n ∧ Q (.int (n : Int)) H
section
variable {Y : Cx} {a : Addr}
theorem op_ninW (hw : WordsAt Y.K Y.w a) : OpR Y (compareOp .NotIn) (rNinW a) := by
  intro pins s σ H x y v u Q I rx ry h
  obtain ⟨z, rfl, rfl, q⟩ := h
  obtain ⟨es, n, h1, h2, h3, h4⟩ := hw.ex
  obtain ⟨r, e, r1, r2⟩ := h4 z
  refine op_notIn_kd (X := Y) (d := a) ⟨h1, h2, h3⟩ pins s σ H (.str z) (.ref a) v u Q I rx ry ⟨z, r, rfl, rfl, e, ?_⟩
  have er : r.isSome = (wordN (TL.tl z)).isSome := by
    cases hw : wordN (TL.tl z) with
    | none => rw [r1 hw] <;> rfl
    | some n =>
      obtain ⟨t, ht⟩ := r2 n hw
      rw [ht] <;> rfl
  rw [er]
  exact q
theorem ix_word (hw : WordsAt Y.K Y.w a) : IxR Y (rIxW a) := by
  intro value slice pins s σ H x y v u Q I rx ry h hs
  obtain ⟨z, n, rfl, rfl, e, q⟩ := h
  obtain ⟨es, n', h1, h2, h3, h4⟩ := hw.ex
  obtain ⟨r, e1, r1, r2⟩ := h4 z
  obtain ⟨t, rfl⟩ := r2 n e
  exact ix_kdict (X := Y) value slice pins s σ H (.ref a) (.str z) v u Q I rx ry ⟨a, z, .int (n : Int), rfl, rfl, ⟨es, n', _, h1, h2, e1, ⟨t, rfl⟩⟩, q⟩ hs
/-! isinstance of a tuple -/
def rIsTup : List V → Hp → VK → Prop := fun xs H Q => ∃ (p : Addr) (vs : List V), xs = [.ref p, .ty "tuple"] ∧ H p = some (.tup vs) ∧ Q (.bl true) H
theorem cr_isTup : CallR Y (.builtin "isinstance") rIsTup := by
  intro pins s σ H xs us Q I r h
  obtain ⟨p, vs, rfl, hp, q⟩ := h
  exact RZ.call_isTy pins s σ H [.ref p, .ty "tuple"] us Q I r ⟨_, _, rfl, .tup hp, q⟩
end
section
variable {M : Mh} {Q : D → Mh → Prop} {a : Addr}
theorem r_ninW {z : List Nat} (q : Q (.bl (!(wordN z).isSome)) M) : lR (rNinW a) (.str z) (.ref a) M Q := fun u v H k s ru rv p => by
  cases ru
  cases rv
  exact ⟨S z, rfl, rfl, p _ _ H M (by rw [TL.tl_mk]; exact q) s (Kn.refl _) (.bl _)⟩
theorem r_ixW {z : List Nat} {n : Nat} (h : wordN z = some n) (q : Q (.int (n : Int)) M) : lR (rIxW a) (.ref a) (.str z) M Q := fun u v H k s ru rv p => by
  cases ru
  cases rv
  exact ⟨S z, n, rfl, rfl, by rw [TL.tl_mk]; exact h, p _ _ H M q s (Kn.refl _) (.int _)⟩
theorem c_isTup {ds : List D} (q : Q (.bl true) M) : lC rIsTup [.tup ds, .ty "tuple"] M Q := fun us H k s r p => by
  cases r with
  | cons r1 r2 =>
    cases r2 with
    | cons r2 r3 =>
      cases r3
      cases r2
      cases r1 with
      | tup h hs => exact ⟨_, _, rfl, (of_imm h).1, p _ _ H M q s (Kn.refl _) (.bl _)⟩
end
theorem isStr_S {x : Str} {k l : List Nat} {t : Tok} (h : x = S k) : (Value.str x t).isStr (S l) = decide (l = k) := by
  subst h
  show (S k == S l) = decide (l = k)
  by_cases e : l = k
  · rw [e, decide_eq_true rfl]
    exact beq_self_eq_true _
  · rw [decide_eq_false e]
    exact beq_eq_false_iff_ne.mpr fun z => e (by rw [← TL.tl_mk l, ← TL.tl_mk k]; exact (congrArg TL.tl z).symm)
/-- the dict as it is written -/
theorem words_at {K : PySem.W.Frag} {w : World} {a : Addr} {hW0 hW1 hW2 hW3 hW4 hW5 hW6 : Int} {tW0 tW1 tW2 tW3 tW4 tW5 tW6 uW0 uW1 uW2 uW3 uW4 uW5 uW6 : Tok} {nW : Nat}
    (hl : K.lookup a = some ⟨.type "dict", none, .dict #[⟨hW0, .str "put" tW0, .int 2 uW0⟩, ⟨hW1, .str "key" tW1, .int 2 uW1⟩, ⟨hW2, .str "rub" tW2, .int 1 uW2⟩, ⟨hW3, .str "tick" tW3, .int 2 uW3⟩, ⟨hW4, .str "again" tW4, .int 1 uW4⟩, ⟨hW5, .str "add" tW5, .int 2 uW5⟩, ⟨hW6, .str "remove" tW6, .int 2 uW6⟩] nW, #[]⟩) (hk : PySem.W.KeysLit w.params (#[⟨hW0, .str "put" tW0, .int 2 uW0⟩, ⟨hW1, .str "key" tW1, .int 2 uW1⟩, ⟨hW2, .str "rub" tW2, .int 1 uW2⟩, ⟨hW3, .str "tick" tW3, .int 2 uW3⟩, ⟨hW4, .str "again" tW4, .int 1 uW4⟩, ⟨hW5, .str "add" tW5, .int 2 uW5⟩, ⟨hW6, .str "remove" tW6, .int 2 uW6⟩] : Array DictEntry).toList) (lo : (a == sysModules) = false) : WordsAt K w a := by
  refine ⟨_, _, hl, hk, lo, fun z => ?_⟩
  obtain ⟨l, rfl⟩ := S_of_str z
  unfold PySem.W.nsIn
  rw [hl]
  dsimp only
  rw [TL.tl_mk]
  have k0 : (Value.str "put" tW0).isStr (S l) = decide (l = [112, 117, 116]) := isStr_S (by decide +kernel)
  have k1 : (Value.str "key" tW1).isStr (S l) = decide (l = [107, 101, 121]) := isStr_S (by decide +kernel)
  have k2 : (Value.str "rub" tW2).isStr (S l) = decide (l = [114, 117, 98]) := isStr_S (by decide +kernel)
  have k3 : (Value.str "tick" tW3).isStr (S l) = decide (l = [116, 105, 99, 107]) := isStr_S (by decide +kernel)
  have k4 : (Value.str "again" tW4).isStr (S l) = decide (l = [97, 103, 97, 105, 110]) := isStr_S (by decide +kernel)
  have k5 : (Value.str "add" tW5).isStr (S l) = decide (l = [97, 100, 100]) := isStr_S (by decide +kernel)
  have k6 : (Value.str "remove" tW6).isStr (S l) = decide (l = [114, 101, 109, 111, 118, 101]) := isStr_S (by decide +kernel)
  unfold wordN
  simp only [List.find?_cons, List.find?_nil, k0, k1, k2, k3, k4, k5, k6]
  by_cases c0 : l = [112, 117, 116]
  · simp only [if_pos c0, decide_eq_true c0]
    refine ⟨_, rfl, fun z => (nomatch z), fun n hn => ?_⟩
    obtain rfl := Option.some.inj hn
    exact ⟨_, rfl⟩
  simp only [if_neg c0, decide_eq_false c0]
  by_cases c1 : l = [107, 101, 121]
  · simp only [if_pos c1, decide_eq_true c1]
    refine ⟨_, rfl, fun z => (nomatch z), fun n hn => ?_⟩
    obtain rfl := Option.some.inj hn
    exact ⟨_, rfl⟩
  simp only [if_neg c1, decide_eq_false c1]
  by_cases c2 : l = [114, 117, 98]
  · simp only [if_pos c2, decide_eq_true c2]
    refine ⟨_, rfl, fun z => (nomatch z), fun n hn => ?_⟩
    obtain rfl := Option.some.inj hn
    exact ⟨_, rfl⟩
  simp only [if_neg c2, decide_eq_false c2]
  by_cases c3 : l = [116, 105, 99, 107]
  · simp only [if_pos c3, decide_eq_true c3]
    refine ⟨_, rfl, fun z => (nomatch z), fun n hn => ?_⟩
    obtain rfl := Option.some.inj hn
    exact ⟨_, rfl⟩
  simp only [if_neg c3, decide_eq_false c3]
  by_cases c4 : l = [97, 103, 97, 105, 110]
  · simp only [if_pos c4, decide_eq_true c4]
    refine ⟨_, rfl, fun z => (nomatch z), fun n hn => ?_⟩
    obtain rfl := Option.some.inj hn
    exact ⟨_, rfl⟩
  simp only [if_neg c4, decide_eq_false c4]
  by_cases c5 : l = [97, 100, 100]
  · simp only [if_pos c5, decide_eq_true c5]
    refine ⟨_, rfl, fun z => (nomatch z), fun n hn => ?_⟩
    obtain rfl := Option.some.inj hn
    exact ⟨_, rfl⟩
  simp only [if_neg c5, decide_eq_false c5]
  by_cases c6 : l = [114, 101, 109, 111, 118, 101]
  · simp only [if_pos c6, decide_eq_true c6]
    refine ⟨_, rfl, fun z => (nomatch z), fun n hn => ?_⟩
    obtain rfl := Option.some.inj hn
    exact ⟨_, rfl⟩
  simp only [if_neg c6, decide_eq_false c6]
  exact ⟨none, rfl, fun _ => rfl, fun n hn => (nomatch hn)⟩
/-! ### a list comprehension whose step may raise -/
/-- what the step lets out is wished for at the def's own slots -/
def tLcX (W : WX) (wi : TI) (g : TG) (tt : TT) (te : WX → TE) (vs : List Nat) : TE := fun σ H Q => tLc wi g tt (te fun cls d _ H' => W cls d σ H') vs σ H Q
section
variable {B : Cx} {pins : List (Addr × Obj)} {σ : L2.St} {H : Hp} {s : Shared} {xe : Value → Shared → Prop}
theorem inv_on (hp : B.pn = []) (I : Inv B pins σ H s) : Inv (B.tr [] xe) pins σ H s :=
  ⟨I.ok.toTry _ _, I.os, I.bare, I.base, I.loc, I.cell, I.free, I.freeC, fun p hq => I.pin p (by rw [hp]; exact hq), I.hok, I.len⟩
theorem inv_off (hp : B.pn = []) (I : Inv (B.tr [] xe) pins σ H s) : Inv B pins σ H s :=
  ⟨I.ok.ofTry, I.os, I.bare, I.base, I.loc, I.cell, I.free, I.freeC, fun p hq => I.pin p (by rw [hp] at hq; exact hq), I.hok, I.len⟩
end
section
variable {X : Cx} {W : WX} {pins p8 : List (Addr × Obj)} {σ σ8 : L2.St} {H3 H8 : Hp} {s3 s8 s9 : Shared} {scope : Scope} {cl : List (Str × Addr)} {fp : List Addr} {xe : Value → Shared → Prop} {u : Value}
/-- the step let an exception out: the block goes, the exception goes on in the def's own frame -/
theorem blk_fails {Q : Value → Shared → Prop} {D : Addr} (hs : X.stack = X.env :: X.outer) (hf : X.env.frame = some X.env.locals) (tk : Takes X W) (I3 : Inv X pins σ H3 s3) (fpk : ∀ b ∈ fp, FpOk X pins H3 b)
    (I8 : Inv ((X.blk s3 H3 scope (compEnvC scope cl s3.heap.objs.size X.env) fp).tr [] xe) p8 σ8 H8 s8) (c : L2.CX X.prog X.w X.stack H8 s8 (fun cls d H' => W cls d σ H') u s9) :
    notedBy (model X.prog X.w) X.A (compEnvC scope cl s3.heap.objs.size X.env) (fun e s' => compEnds (model X.prog X.w) X.A X.xe none Q (.ref D) (compEnvC scope cl s3.heap.objs.size X.env) (.error e) s') u s9 := by
  obtain ⟨a, B, sI, pI, σI, HI, cls, d, rfl, JB, nb, up, sky, na, os, ag, w⟩ := XE.of_call (W := fun cls d _ H' => W cls d σ H') I8 (fun _ _ _ h => h) c
  have sky : Sky B X.stack a (Zc cls d) s3.heap.objs.size s9.heap := sky
  have fly : HandSPX.FlyingZ B X.stack a (Zc cls d) s9.heap := by
    obtain ⟨a2, B2, H2, c2, d2, e2, fl2, _⟩ := c
    obtain rfl : a = a2 := Value.ref.inj e2
    obtain ⟨_, _, _, oe2, vs2, T2, oT2, ts2, g2, _, gd2, g12, _, _, gT2, gdT2, g32⟩ := fl2
    rcases sky with ⟨_, _, _, oe, vs, he, _, hd, h1⟩ | fl | ⟨_, _, _, oe, vs, T, oT, ts, he, _, hd, h1, _, _, hT, hdT, h3⟩
    · rw [g2] at he
      cases he
      rw [gd2] at hd
      cases hd
      rw [g12] at h1
      cases h1
    · exact fl
    · rw [g2] at he
      cases he
      rw [gd2] at hd
      cases hd
      rw [g12] at h1
      cases h1
      rw [gT2] at hT
      cases hT
      rw [gdT2] at hdT
      cases hdT
      rw [g32] at h3
      exact absurd h3 (by simp [rawInt])
  obtain ⟨C, hC⟩ : ∃ C, C = s3.heap.objs.size := ⟨_, rfl⟩
  have JX : Inv X pins σ HI sI := I3.call' (ch := fp) JB.os JB.base JB.hok JB.bare fun b hb => by
    obtain ⟨_, z1, _, z3, z4, z5⟩ := fpk b hb
    exact ⟨z3, z1, z4, z5⟩
  have frames : X.A.frames = some (X.env :: X.outer) := by rw [I3.ok.frames, hs]
  rw [hs] at fly
  show wpAny (model X.prog X.w) X.A (noteFrame (.ref a) X.env) _ _ s9
  refine HandSPX.looks_onZ Zc.steady frames hf fly fun h1 held1 up1 => ?_
  obtain ⟨m, ⟨o, es, ep, hoC, rest⟩, _⟩ := JB.loc
  have hoC : sI.heap.get? C = some o := by rw [hC]; exact hoC
  have fpC : FpOk X pins HI C := by
    rw [hC]
    exact I3.fpOk (Nat.le_refl _) (show HI s3.heap.objs.size = none from JB.free)
  have notFrame : C ∉ frs X.stack := fun z => by
    rcases List.mem_cons.mp (I3.stkSub C z) with y | y
    · exact fpC.2.1 y
    · exact fpC.2.2.1 y
  have inB : B.get? C = some o := nb C o hoC notFrame
  have aC : a ≠ C := fun z => by
    have := held1.2.1
    rw [z, inB] at this
    cases this
  have inH1 : h1.get? C = some o := held1.1 C o inB
  refine ⟨m, by
    show Heap.Ns h1 s3.heap.objs.size m
    rw [← hC]
    exact ⟨o, es, ep, inH1, rest⟩, fun h2 m2 ns2 sb => ?_⟩
  have sb : Heap.SameBut C h1 h2 := by rw [hC]; exact sb
  have ns2 : h2.Ns C m2 := by rw [hC]; exact ns2
  obtain ⟨k1, k2, k3, oe, vs, T, oT, ts, he, hz, hd, h11, hnT, hTa, hT, hdT, ht3⟩ := held1
  have TC : T ≠ C := fun z => by
    rw [z, inB] at hnT
    cases hnT
  have gone : ∀ {b : Addr} {o : Obj}, (PySem.W.hideAll B [C]).get? b = some o → b ≠ C ∧ B.get? b = some o := fun {b o} e => by
    refine ⟨fun z => ?_, PySem.W.of_hideAll _ e⟩
    rw [z, PySem.W.hideAll_none [C] (List.mem_cons_self)] at e
    cases e
  have goneN : ∀ {b : Addr}, B.get? b = none → (PySem.W.hideAll B [C]).get? b = none := fun {b} e => by
    cases q : (PySem.W.hideAll B [C]).get? b with
    | none => rfl
    | some o =>
      have := (gone q).2
      rw [e] at this
      cases this
  have held2 : HandSPX.HeldZ (PySem.W.hideAll B [C]) (X.env :: X.outer) a (Zc cls d) X.env.locals h2 :=
    ⟨fun b o e => (sb.2 b (gone e).1).trans (k1 b o (gone e).2), goneN k2, funFrames_none (Heap.FunFrames.sameBut sb ns2 k3) fun b hb => goneN (k3.mem hb).1,
      oe, vs, T, oT, ts, (sb.2 a aC).trans he, hz, hd, h11, goneN hnT, hTa, (sb.2 T TC).trans hT, hdT, ht3⟩
  unfold PySem.passOn
  refine wpAny_bind (wpAny_field ((sb.2 a aC).trans he) hd h11 ?_)
  rw [if_neg (by simp)]
  show wpAny (model X.prog X.w) X.A (do setFlight (.ref a) X.env.frame; throw (Value.ref a)) _ _ _
  rw [hf]
  refine wpAny_bind (HandSPX.setFlight_onZ held2 fun h3 held3 up3 => wpAny_throw ?_)
  refine tk _ _ ⟨a, PySem.W.hideAll B [C], { sI with heap := PySem.W.hideAll sI.heap [C] }, pins, σ, HI, cls, d, rfl, ?_, fun b o e hb => ?_, fun b o e nf => ?_, .inr (.inr (by rw [hs]; exact held3)), na, os, ag, w⟩
  · exact JX.turned (it := C) (t' := sI.toks) (fun b o hb e => PySem.W.hideAll_get _ e (by simpa using hb)) fpC.1 fpC.2.1 fpC.2.2.2.1 fpC.2.2.2.2.1 fpC.2.2.2.2.2
  · have e1 := PySem.W.of_hideAll _ e
    have bC : b ≠ C := fun z => by
      rw [z] at e
      have e : (PySem.W.hideAll sI.heap [C]).get? C = some o := e
      rw [PySem.W.hideAll_none [C] (List.mem_cons_self)] at e
      cases e
    exact PySem.W.hideAll_get _ (nb b o e1 hb) (by simpa using bC)
  · have e1 := PySem.W.of_hideAll _ e
    have bC : b ≠ C := fun z => by
      rw [z] at e
      have e : (PySem.W.hideAll sI.heap [C]).get? C = some o := e
      rw [PySem.W.hideAll_none [C] (List.mem_cons_self)] at e
      cases e
    obtain ⟨sl1, r1⟩ := up b o e1 nf
    obtain ⟨sl2, r2⟩ := up1 b _ r1 nf
    obtain ⟨sl3, r3⟩ := up3 b _ ((sb.2 b bC).trans r2) nf
    exact ⟨sl3, r3⟩
end
section
variable {X : Cx} {W : WX}
/-- the whole comprehension -/
theorem lcx_core {pins : List (Addr × Obj)} {s : Shared} {σ : L2.St} {H : Hp} {Q : VK} {elt tg iter : Expr} {ifs : List Expr} {scope : Scope} {own : List (Str × Nat)} {pos pos' : Pos} {wi : TI} {g : TG} {tt : TT} {te : WX → TE}
    (hc : X.calm = true) (hN : X.N.Nodup) (hs : X.stack = X.env :: X.outer) (hf : X.env.frame = some X.env.locals) (tk : Takes X W) (I : Inv X pins σ H s) (hi : PI X tg iter wi) (ok : BlkOk X.N X.env.scope scope own)
    (hg : ∀ (s : Shared) (H : Hp) (C : Addr) (cl : List (Str × Addr)) (fp : List Addr), PG (X.blk s H scope (compEnvC scope cl C X.env) fp) tg g)
    (ht : ∀ (s : Shared) (H : Hp) (C : Addr) (cl : List (Str × Addr)) (fp : List Addr), PTs (X.blk s H scope (compEnvC scope cl C X.env) fp) ifs tt)
    (he : ∀ (s : Shared) (H : Hp) (C : Addr) (cl : List (Str × Addr)) (fp : List Addr) (xe : Value → Shared → Prop) (E : XK), (∀ σ', PassesAt (L2.CX X.prog X.w) ((X.blk s H scope (compEnvC scope cl C X.env) fp).tr [] xe) σ' E) → PE ((X.blk s H scope (compEnvC scope cl C X.env) fp).tr [] xe) elt (te fun cls d _ H' => E cls d H'))
    (hst : ∀ x, foldedSetIterable iter X.env x = pure x) (h : tLcX W wi g tt te (own.map (·.2)) σ H Q) :
    wpAny (model X.prog X.w) X.A (comprehension (.ListComp elt [⟨tg, iter, ifs, 0⟩] scope pos) scope X.env pos' (newList []) false (eval iter X.env) none) (EP X pins σ Q) X.xe s := by
  have captured : ∀ y ∈ scope.names, y.2 = .free → ∃ c, X.env.cells.lookup y.1 = some c := fun y hy e => (ok.free y hy e).elim (fun k => I.ok.has _ (.inl k)) fun k => I.ok.has _ (.inr k)
  refine comprehension_at (use := none) rfl hst (closure_ok captured) ok.kind (fun y hy e => by rw [ok.uniq y hy, e]) (thn (hi.run pins s σ H _ I h) fun xv s1 hx => thn hx fun itv s2 h2 => ?_)
  obtain ⟨it, fp, tn, J, H2, rfl, I2, T, begun, fpk, q⟩ := h2
  refine wpAny_newObj_type (newEnv_comp ?_) (by show 0 ≤ sizeLine; decide)
  obtain ⟨D, eD⟩ : ∃ D, D = s2.heap.objs.size := ⟨_, rfl⟩
  have newD : H2 D = none := I2.hok.fresh (Nat.le_of_eq eD.symm)
  obtain ⟨Wn, ⟨m0, w0⟩, turn⟩ := q D newD
  obtain ⟨s3, es3⟩ : ∃ s3 : Shared, s3 = { s2 with heap := s2.heap.push { cls := .type "list", data := .seq ([] : List Value).toArray } } := ⟨_, rfl⟩
  have heap3 : s3.heap = s2.heap.push { cls := .type "list", data := .seq ([] : List Value).toArray } := by rw [es3]
  have grow : ∀ b o, s2.heap.get? b = some o → s3.heap.get? b = some o := fun b o e => by
    rw [heap3]
    exact Heap.get?_push_of_some _ e
  have I3 : Inv X pins σ (upd H2 D (.lst [])) s3 := by
    rw [es3]
    refine I2.laid (t' := s2.toks) (fun b o e => Heap.get?_push_of_some _ e) (Nat.le_of_eq eD.symm) ⟨Nat.zero_le _, [], 0, .nil, ?_⟩
    rw [eD]
    exact Heap.get?_push_size _ rfl
  have low : ∀ b ∈ fp, b < s2.heap.objs.size := fun b hb => by
    obtain ⟨_, e, _⟩ := T.obj _ _ begun b hb
    exact Heap.lt_size e
  obtain ⟨H3, eH3⟩ : ∃ H3, H3 = upd H2 D (.lst []) := ⟨_, rfl⟩
  rw [← eH3] at I3 w0
  have fpk3 : ∀ b ∈ fp, FpOk X pins H3 b := fun b hb => by
    refine ⟨?_, (fpk b hb).2⟩
    rw [eH3, upd_ne (by rw [eD]; exact Nat.ne_of_lt (low b hb))]
    exact (fpk b hb).1
  have low3 : ∀ b ∈ fp, b < s3.heap.objs.size := fun b hb => by
    rw [heap3, Heap.size_push]
    exact Nat.lt_succ_of_lt (low b hb)
  have begun3 : tn 0 s3.heap := T.keep _ _ _ begun fun b _ o e => grow b o e
  have IB := block_start I3 ok hN fun b hb => ⟨fpk3 b hb, low3 b hb⟩
  rw [← es3, ← eD]
  obtain ⟨cells, ecl⟩ : ∃ cells, cells = cellsFrom (s3.heap.objs.size + 1) scope.names (cloFrom X.env.cells scope.names []) := ⟨_, rfl⟩
  rw [← ecl] at IB
  show codeAny (model X.prog X.w) X.A (.compStart (.ListComp elt [⟨tg, iter, ifs, 0⟩] scope pos) 0 (.ref it) (.ref D) (compEnvC scope (cellsFrom (s3.heap.objs.size + 1) scope.names (cloFrom X.env.cells scope.names [])) s3.heap.objs.size X.env))
    (compEnds (model X.prog X.w) X.A X.xe none (EP X pins σ Q) (.ref D) (compEnvC scope (cellsFrom (s3.heap.objs.size + 1) scope.names (cloFrom X.env.cells scope.names [])) s3.heap.objs.size X.env)) { s3 with heap := pushCells (s3.heap.push { cls := .type "dict", data := .dict #[] }) scope.names }
  rw [← ecl]
  obtain ⟨s4, es4⟩ : ∃ s4 : Shared, s4 = { s3 with heap := pushCells (s3.heap.push { cls := .type "dict", data := .dict #[] }) scope.names } := ⟨_, rfl⟩
  rw [← es4] at IB ⊢
  have begun4 : tn 0 s4.heap := T.keep _ _ _ begun3 fun b _ o e => by
    rw [es4]
    exact pushCells_keeps _ _ _ _ (Heap.get?_push_of_some _ e)
  have stands : ∀ {σ' : L2.St} {H' : Hp} {s' : Shared}, Inv (X.blk s3 H3 scope (compEnvC scope cells s3.heap.objs.size X.env) fp) [] σ' H' s' → (∀ b ∈ fp, H' b = none) → ∀ b ∈ fp, FpOk (X.blk s3 H3 scope (compEnvC scope cells s3.heap.objs.size X.env) fp) [] H' b :=
    fun {σ' H' s'} I' hn b hb => ⟨hn b hb, (I'.ok.exf b hb).1, I'.ok.exfs b hb, .inl hb, fun x c e => (I'.ok.exf b hb).2 x c e, fun p hp => absurd (show p ∈ ([] : List (Addr × Obj)) ++ [] from hp) (by simp)⟩
  have walk : codeAny (model X.prog X.w) X.A (.compLoop (.ListComp elt [⟨tg, iter, ifs, 0⟩] scope pos) 0 (.ref it) (.ref D) (compEnvC scope cells s3.heap.objs.size X.env)) (compEnds (model X.prog X.w) X.A X.xe none (EP X pins σ Q) (.ref D) (compEnvC scope cells s3.heap.objs.size X.env)) s4 := by
    refine compLoop_any (fun n s' => ∃ i H', Inv (X.blk s3 H3 scope (compEnvC scope cells s3.heap.objs.size X.env) fp) [] (wipe σ (own.map (·.2))) H' s' ∧ tn i s'.heap ∧ (∀ b ∈ fp, H' b = none) ∧ Wn i n H') ?_ m0 ⟨0, H3, IB, begun4, fun b hb => (fpk3 b hb).1, w0⟩
    rintro n s5 ⟨i, H5, I5, at5, none5, w5⟩
    rcases turn i n H5 w5 with ⟨ends, fin⟩ | ⟨goes, Nx, back, step⟩
    · have td := T.done (X.blk s3 H3 scope (compEnvC scope cells s3.heap.objs.size X.env) fp) rfl rfl rfl hc i [] s5 _ H5 (fun _ _ => False) I5 (stands I5 none5) at5 ends
      refine thnF td fun r s6 ⟨hr, I6⟩ => ?_
      subst hr
      have IX : Inv X pins σ H5 s6 := I3.call' (ch := fp) I6.os I6.base I6.hok I6.bare fun b hb => by
        obtain ⟨_, z1, _, z3, z4, z5⟩ := fpk3 b hb
        exact ⟨z3, z1, z4, z5⟩
      obtain ⟨m, nsm, _⟩ := I6.loc
      refine ⟨m, nsm, fun h7 sb => ⟨.ref D, H5, ?_, rfl, fin⟩⟩
      obtain ⟨f0, f1, f2, f3, f4, f5⟩ := I3.fpOk (Nat.le_refl _) (show H5 s3.heap.objs.size = none from I6.free)
      exact IX.turned (t' := s6.toks) (fun b o hb e => (sb.2 b hb).trans e) f0 f1 f3 f4 f5
    · have ti := T.item (X.blk s3 H3 scope (compEnvC scope cells s3.heap.objs.size X.env) fp) rfl rfl rfl hc i [] s5 _ H5 (fun _ _ => False) I5 (stands I5 none5) at5 goes
      refine thnF ti fun r s6 ⟨v, hr, h6⟩ => ?_
      subst hr
      refine thnF h6 fun _ s7 ⟨x, H7, I7, rel7, yield7, at7, none7⟩ => ?_
      have pin7 := I7.pinned (stands I7 none7) (T.obj _ _ at7)
      refine thnF ((hg s3 H3 s3.heap.objs.size cells fp).run _ s7 _ H7 x v _ pin7 rel7 (step x H7 yield7)) fun _ s8 ⟨σ8, H8, I8, wiped, q8⟩ => ?_
      refine thnF ((ht s3 H3 s3.heap.objs.size cells fp).run _ s8 σ8 H8 _ I8 q8) fun b s9 ⟨H9, I9, q9⟩ => ?_
      have onward : ∀ {s' : Shared} {H' : Hp}, Inv (X.blk s3 H3 scope (compEnvC scope cells s3.heap.objs.size X.env) fp) ([] ++ pinsAt fp s7.heap) σ8 H' s' → Nx H' →
          ∃ m, m < n ∧ ∃ i H', Inv (X.blk s3 H3 scope (compEnvC scope cells s3.heap.objs.size X.env) fp) [] (wipe σ (own.map (·.2))) H' s' ∧ tn i s'.heap ∧ (∀ b ∈ fp, H' b = none) ∧ Wn i m H' := fun {s' H'} I' nx => by
        obtain ⟨m', less, w'⟩ := back H' nx
        have pinned : ∀ b ∈ fp, ∀ o, s7.heap.get? b = some o → s'.heap.get? b = some o ∧ H' b = none := fun b hb o e => by
          have z := I'.pin (b, o) (List.mem_append_right _ (List.mem_append_right _ (mem_pinsAt hb e)))
          exact ⟨z.1, z.2.1⟩
        refine ⟨m', less, i + 1, H', (I'.unpinned (pins := [])).weak (by rw [← wiped, wipe_length]) (fun j v e => ?_), T.keep _ _ _ at7 fun b hb o e => (pinned b hb o e).1, fun b hb => ?_, w'⟩
        · rw [← wiped] at e
          exact (wipe_some e).1
        · obtain ⟨o, e, _⟩ := T.obj _ _ at7 b hb
          exact (pinned b hb o e).2
      cases b with
      | false =>
        simp only [Bool.false_eq_true, if_false] at q9 ⊢
        exact onward I9 q9
      | true =>
        simp only [if_true] at q9 ⊢
        have raised := he s3 H3 s3.heap.objs.size cells fp (notedBy (model X.prog X.w) X.A (compEnvC scope cells s3.heap.objs.size X.env) fun e s' => compEnds (model X.prog X.w) X.A X.xe none (EP X pins σ Q) (.ref D) (compEnvC scope cells s3.heap.objs.size X.env) (.error e) s')
          (fun cls d H' => W cls d σ H') fun σ' p8 H8 s8 u s9 I8 c => blk_fails hs hf tk I3 fpk3 I8 c
        refine wpAny_mono (raised.run _ s9 σ8 H9 _ (inv_on rfl I9) q9) (fun z s10 ⟨yv, H10, I10, r10, acc, inD, size, nx⟩ => ?_) fun _ _ z => z
        exact app_ok (X := X.blk s3 H3 scope (compEnvC scope cells s3.heap.objs.size X.env) fp) (inv_off rfl I10) inD size r10 fun s11 I11 => onward I11 nx
  exact codeAny_compStart_list walk (T.self X.A 0 _ _ _ begun4 walk)
/-- as a value -/
theorem pe_lcx {elt tg iter : Expr} {ifs : List Expr} {scope : Scope} {own : List (Str × Nat)} {pos : Pos} {wi : TI} {g : TG} {tt : TT} {te : WX → TE} (hc : X.calm = true) (hN : X.N.Nodup) (hs : X.stack = X.env :: X.outer) (hf : X.env.frame = some X.env.locals) (tk : Takes X W) (hi : PI X tg iter wi) (ok : BlkOk X.N X.env.scope scope own)
    (hg : ∀ (s : Shared) (H : Hp) (C : Addr) (cl : List (Str × Addr)) (fp : List Addr), PG (X.blk s H scope (compEnvC scope cl C X.env) fp) tg g)
    (ht : ∀ (s : Shared) (H : Hp) (C : Addr) (cl : List (Str × Addr)) (fp : List Addr), PTs (X.blk s H scope (compEnvC scope cl C X.env) fp) ifs tt)
    (he : ∀ (s : Shared) (H : Hp) (C : Addr) (cl : List (Str × Addr)) (fp : List Addr) (xe : Value → Shared → Prop) (E : XK), (∀ σ', PassesAt (L2.CX X.prog X.w) ((X.blk s H scope (compEnvC scope cl C X.env) fp).tr [] xe) σ' E) → PE ((X.blk s H scope (compEnvC scope cl C X.env) fp).tr [] xe) elt (te fun cls d _ H' => E cls d H'))
    (hst : ∀ x, foldedSetIterable iter X.env x = pure x := by intro _; rfl) : PE X (.ListComp elt [⟨tg, iter, ifs, 0⟩] scope pos) (tLcX W wi g tt te (own.map (·.2))) := by
  refine ⟨fun pins s σ H Q I h => ?_⟩
  rw [eval_ListComp]
  exact lcx_core hc hN hs hf tk I hi ok hg ht he hst h
end
section
variable {X : Cx} {k j : Nat} {x : Str} {sp : Sp} {E : XK} {pos p : Pos} {e : Expr} {es : List Expr} {ta : TA}
/-- a def's call as such a step -/
theorem pe_cE (c : Cal X.prog X.w X.K X.mg X.base k x sp) (hr : Room j X.A) (hk : k ≤ j) (hg : Gl X x) (hp : ∀ σ', PassesAt (L2.CX X.prog X.w) X σ' E) (ha : PA X (e :: es) ta)
    (hdb : (x == ("__debug__" : Str)) = false := by decide) (he : starEach (e :: es) X.env = (false, eval e X.env) :: starEach es X.env := by rfl) (hpl : (backTo pos (starEach es X.env)).any (·.1) = false := by rfl) :
    PE X (.Call (.Name x p) (e :: es) [] pos) (tCallS sp (WE fun cls d _ H' => E cls d H') ta) := by
  obtain ⟨f, fd, ps, F, hm, kp, b⟩ := c.ex
  exact pe_callS F (hr.mono hk) hg hm kp b hp ha hdb he hpl
end
section
variable {W : WX} {X : XD} {ρ : En} {M : Mh} {Q : D → Mh → Prop}
theorem l_lcX {wi : TI} {g : TG} {tt : TT} {te : WX → TE} {vs : List Nat} (hw : WipG g vs) (h : lI W wi ρ M (fun ds C M1 => ∀ a, M1 a = none → ∃ I : Nat → List D → Mh → Prop, I 0 [] (upM M1 a (.lst [])) ∧
      (∀ i acc M', I i acc M' → C M' ∧ M' a = some (.lst acc) ∧ acc.length ≤ 100000) ∧
      (∀ i acc M' d, ds[i]? = some d → I i acc M' → lG W0 g d (wipeD ρ vs) M' (fun ρ2 M2 => lT W0 tt ρ2 M2 (fun b M3 => (b = true → ∀ W', lE W' (te W') ρ2 M3 (fun y M4 => M4 a = some (.lst acc) ∧ I (i + 1) (acc ++ [y]) (upM M4 a (.lst (acc ++ [y])))) (fun c _ M4 => X c ρ M4)) ∧ (b = false → I (i + 1) acc M3)) noX) noX) ∧
      (∀ acc M', I ds.length acc M' → Q (.ref a) M')) X) : lE W (tLcX W wi g tt te vs) ρ M Q X := fun σ H k s e p px =>
  h σ H _ s e (fun J H1 M1 ds C q1 s1 t1 wk a ha => by
    obtain ⟨I, start, inv, turn, fin⟩ := q1 a (s1.fresh ha)
    refine ⟨fun i m H' => ∃ acc M', m = ds.length - i ∧ i ≤ ds.length ∧ I i acc M' ∧ Sta M' H' ∧ Stp H1 M1 H' M', ⟨_, [], _, rfl, Nat.zero_le _, start, s1.newC ha ⟨[], rfl, .nil⟩, Stp.newC ha⟩, ?_⟩
    rintro i m H' ⟨acc, M', rfl, hi, hI, s', t'⟩
    obtain ⟨inC, inA, inL⟩ := inv _ _ _ hI
    by_cases hlt : i < ds.length
    · obtain ⟨g1, g2⟩ := wk.go i H' M' s' t' inC hlt
      refine .inr ⟨g1, fun H2 => ∃ acc2 M2, I (i + 1) acc2 M2 ∧ Sta M2 H2 ∧ Stp H1 M1 H2 M2, fun H2 ⟨acc2, M2, a1, a2, a3⟩ => ⟨ds.length - (i + 1), by omega, acc2, M2, rfl, hlt, a1, a2, a3⟩, fun x H3 y => ?_⟩
      obtain ⟨s3, t3, d, hdi, r3⟩ := g2 x H3 y
      have T3 := t'.trans t3
      refine hw (wipe σ vs) x (wipe σ vs) H3 (fun σ2 H2 => tt σ2 H2 fun b H5 => if b = true then te (fun cls d _ H' => W cls d σ H') σ2 H5 fun y H6 => ∃ acc, H6 a = some (.lst acc) ∧ acc.length < sizeLine ∧ ∃ acc2 M2, I (i + 1) acc2 M2 ∧ Sta M2 (upd H6 a (.lst (acc ++ [y]))) ∧ Stp H1 M1 (upd H6 a (.lst (acc ++ [y]))) M2 else ∃ acc2 M2, I (i + 1) acc2 M2 ∧ Sta M2 H5 ∧ Stp H1 M1 H5 M2) _ wipe_wipe ?_ fun σ2 H2 e2 q2 => ⟨e2, q2⟩
      refine turn i acc M' d hdi hI x _ H3 _ s3 (RpE.wipe (e.mono (t1.trans T3)) vs) r3 (fun σ4 ρ4 H4 M4 q4 s4 t4 e4 => ?_) px0
      refine q4 σ4 H4 _ s4 e4 (fun b H5 M5 q5 s5 t5 => ?_) px0
      cases b with
      | false => exact iteF ⟨acc, M5, q5.2 rfl, s5, T3.trans (t4.trans t5)⟩
      | true =>
        refine iteT (q5.1 rfl _ σ4 H5 _ s5 (e4.mono t5) (fun v y H6 M6 q6 s6 t6 r6 => ?_) fun c σ7 ρ7 H7 M7 q7 s7 t7 _ => ?_)
        · obtain ⟨q7, q8⟩ := q6
          obtain ⟨vacc, hv, rv⟩ := s6.lst q7
          refine ⟨vacc, hv, ?_, acc ++ [y], _, q8, s6.set q7 ⟨_, rfl, rv.append (.cons r6 .nil)⟩, T3.trans (t4.trans (t5.trans (t6.trans (Stp.set q7))))⟩
          rw [rv.length]
          exact line_lt inL
        · have TT := t1.trans (T3.trans (t4.trans (t5.trans t7)))
          exact px c σ ρ H7 M7 q7 s7 TT (e.mono TT)
    · have ei : i = ds.length := by omega
      subst ei
      exact .inl ⟨wk.stop H' M' s' t' inC, p _ _ H' M' (fin _ _ hI) s' (t1.trans t') (.ref a)⟩) px
end


/-! ### askers: what they compute -/
inductive Lg where
  | asked (n : Nat) (k : List Nat)
  | came (n : Nat)
  | late (n : Nat)
  | off (n : Nat)
  | lost (n : Nat)
def lgD : Lg → D
  | .asked n k => .tup [.str [97, 115, 107, 101, 100], .int (n : Int), .str k]
  | .came n => .tup [.str [99, 97, 109, 101], .int (n : Int)]
  | .late n => .tup [.str [108, 97, 116, 101], .int (n : Int)]
  | .off n => .tup [.str [111, 102, 102], .int (n : Int)]
  | .lost n => .tup [.str [108, 111, 115, 116], .int (n : Int)]
/-- what is shown: the query (folded), the rows, whether they were lessened -/
structure Sw where
  key : List Nat
  rows : List (List Nat)
  less : Bool
def swD : Option Sw → D
  | none => .non
  | some s => .tup [.str s.key, .lst (s.rows.map D.str), .bl s.less]
structure As where
  time : Int
  now : List Nat
  typed : Int
  due : Bool
  tries : Nat
  asked : List (Nat × List Nat)
  flying : List (Nat × Int)
  shown : Option Sw
  log : List Lg
  ks : List Ke
  sent : Nat
  ws : List Fl
/-- the rules -/
structure Ru where
  dl : List (Option Int)
  most : Nat
  term : Int
  many : Nat
  pause : Int
  asks : Int
  pat : Int
def dropA (wanted : Option (List Nat)) (x : As) : As :=
  { x with asked := x.asked.filter (fun p => decide (some (fold p.2) = wanted)), log := x.log ++ (x.asked.filter fun p => !decide (some (fold p.2) = wanted)).map fun p => Lg.off p.1 }
def showA (rows : List (List Nat)) (x : As) : As := dropA none { x with shown := some ⟨fold x.now, rows, false⟩, due := false }
def freshA (x : As) (s : Sw) : Bool := decide (s.key = fold x.now) && !s.less
def lessA (R : Ru) (x : As) (s : Sw) : As := { x with shown := if bestF s.rows x.now R.many = [] then none else some ⟨s.key, bestF s.rows x.now R.many, true⟩ }
def lookA (R : Ru) (x : As) : As :=
  if fold x.now = [] then { x with due := false, shown := none } else
  match srcK (canTell R.term x.time (fold x.now)) x.ks with
  | some e => showA (bestF e.rows x.now R.many) { x with ks := useK x.ks e }
  | none => match x.shown with
    | none => x
    | some s => if freshA x s = true then x else lessA R x s
def goA (R : Ru) (x : As) : Bool := x.due && (decide (R.pause ≤ x.time - x.typed) && decide ((x.flying.length : Int) < R.asks))
def sendA (R : Ru) (x : As) : As :=
  { x with due := false, tries := x.tries + 1, sent := x.sent + 1, ws := sendW R.dl x.sent x.ws x.now x.time, asked := x.asked ++ [(x.sent + 1, x.now)], flying := x.flying ++ [(x.sent + 1, x.time)], log := x.log ++ [.asked (x.sent + 1) (fold x.now)] }
def askA (R : Ru) (x : As) : As := if goA R x = true then sendA R x else x
def isIn (n : Nat) (x : As) : Bool := x.asked.any fun p => decide (p.1 = n)
def outA (n : Nat) (x : As) : As := { x with asked := x.asked.filter fun p => decide (p.1 ≠ n) }
def downA (n : Nat) (x : As) : As := { x with flying := x.flying.filter fun p => decide (p.1 ≠ n) }
/-- an answer comes -/
def arriveA (R : Ru) (ss : List (List Nat)) (x : As) (f : Fl) : As :=
  let rows := bestF ss f.q R.many
  let x1 := { downA f.num x with ks := putK R.most x.ks ⟨fold f.q, rows, decide ((allBest ss f.q).length ≤ R.many), x.time⟩ }
  if isIn f.num x = true then showA rows { outA f.num x1 with log := x1.log ++ [.came f.num] } else lookA R { x1 with log := x1.log ++ [.late f.num] }
def lostA (R : Ru) (x : As) (n : Nat) : As :=
  match x.flying.find? fun p => decide (p.1 = n) with
  | none => x
  | some p => if R.pat ≤ x.time - p.2 then
      (if isIn n x = true then { outA n (downA n x) with log := x.log ++ [.lost n], due := decide (x.tries < 3) } else downA n x) else x
def tryA (R : Ru) (x : As) : As := (x.flying.map (·.1)).foldl (lostA R) x
def stepA (R : Ru) (ss : List (List Nat)) (x : As) : As :=
  let x1 := { x with time := x.time + 1 }
  let x2 := (dueL x1.ws x1.time).foldl (arriveA R ss) { x1 with ws := x1.ws.filter (stays x1.time) }
  askA R (tryA R x2)
def tickA (R : Ru) (ss : List (List Nat)) : Nat → As → As
  | 0, x => x
  | n + 1, x => tickA R ss n (stepA R ss x)
def putA (R : Ru) (text : List Nat) (x : As) : As :=
  let x1 := if fold text ≠ fold x.now then { dropA (some (fold text)) x with typed := x.time, due := decide (fold text ≠ []), tries := 0 } else x
  askA R (lookA R { x1 with now := text })
def againA (R : Ru) (x : As) : As := askA R { x with ks := [], due := true, tries := 0, typed := x.time - R.pause }
def viewD (x : As) : D :=
  match x.shown with
  | none => .tup [.str [110, 111, 116, 104, 105, 110, 103], .str [], .lst []]
  | some s => .tup [.str (if freshA x s = true then [102, 114, 101, 115, 104] else [111, 108, 100]), .str s.key, .lst (s.rows.map D.str)]
def waitA (x : As) : Bool := x.due || decide (0 < x.asked.length)
/-! cells -/
structure Ad where
  a : Addr
  dA : Addr
  dF : Addr
  lg : Addr
  st : Addr
  sr : Addr
  rd : Addr
  u : Addr
  sh : Addr
abbrev akNs : List Str := ["store", "road", "shelf", "rows_most", "pause", "asks_most", "patience", "time", "now", "typed_at", "is_due", "tries", "asked", "flying", "shown", "rows"]
def akD (A : Ad) (R : Ru) (x : As) : List D := [.ref A.st, .ref A.rd, .ref A.sh, .int (R.many : Int), .int R.pause, .int R.asks, .int R.pat, .int x.time, .str x.now, .int x.typed, .bl x.due, .int (x.tries : Int), .ref A.dA, .ref A.dF, swD x.shown, .ref A.lg]
def akC (g : G) (A : Ad) (R : Ru) (x : As) : Cell := .ins g.cK akNs (akD A R x)
def kvA (x : As) : List (Key × D) := x.asked.map fun p => (.inl (p.1 : Int), .str p.2)
def kvF (x : As) : List (Key × D) := x.flying.map fun p => (.inl (p.1 : Int), .int p.2)
structure IsAs (g : G) (M : Mh) (A : Ad) (R : Ru) (ss : List (List Nat)) (x : As) : Prop where
  ob : M A.a = some (akC g A R x)
  da : M A.dA = some (.dic (kvA x))
  df : M A.dF = some (.dic (kvF x))
  lg : M A.lg = some (.lst (x.log.map lgD))
  st : IsSt g M A.st A.sr ss
  rd : IsRd g M A.rd A.u R.dl x.sent x.ws
  sh : M A.sh = some (shC g R.most R.term x.ks)
  d1 : A.dA ≠ A.dF
  l1 : A.lg ≠ A.sr
  l2 : A.lg ≠ A.u
  l3 : A.sr ≠ A.u
/-- what may be touched -/
def fp (A : Ad) : List Addr := [A.a, A.dA, A.dF, A.lg, A.rd, A.u, A.sh]
/-- from one state to the next -/
structure Go (M M' : Mh) (A A' : Ad) : Prop where
  kp : ∀ b c, M b = some c → b ∉ fp A → M' b = some c
  sm : A' = { A with u := A'.u }
  fr : A'.u = A.u ∨ M A'.u = none
  bk : ∀ b, M b ≠ none → M' b ≠ none
theorem Go.refl (M : Mh) (A : Ad) : Go M M A A := ⟨fun _ _ h _ => h, rfl, .inl rfl, fun _ h => h⟩
theorem fp_u {A A' : Ad} (h : A' = { A with u := A'.u }) {b : Addr} (hb : b ∉ fp A) (hu : b ≠ A'.u) : b ∉ fp A' := by
  rw [h]
  unfold fp at hb ⊢
  simp only [List.mem_cons, List.not_mem_nil, or_false, not_or] at hb ⊢
  exact ⟨hb.1, hb.2.1, hb.2.2.1, hb.2.2.2.1, hb.2.2.2.2.1, hu, hb.2.2.2.2.2.2⟩
theorem u_fp (A : Ad) : A.u ∈ fp A := by unfold fp; simp
theorem Go.trans {M M' M'' : Mh} {A A' A'' : Ad} (h : Go M M' A A') (h2 : Go M' M'' A' A'') : Go M M'' A A'' where
  kp := fun b c hb hn => by
    refine h2.kp b c (h.kp b c hb hn) (fp_u h.sm hn ?_)
    rcases h.fr with e | e
    · rw [e]
      exact fun z => hn (by rw [z]; exact u_fp A)
    · exact fun z => by rw [z, e] at hb; cases hb
  sm := by
    have h1 := h.sm
    have h3 := h2.sm
    rw [h3, h1]
  fr := by
    rcases h2.fr with e | e
    · rw [e]
      exact h.fr
    · right
      cases z : M A''.u with
      | none => rfl
      | some c => exact absurd e (h.bk _ (by rw [z]; exact fun w => nomatch w))
  bk := fun b hb => h2.bk b (h.bk b hb)
theorem bk_up {M : Mh} {a : Addr} {c : Cell} : ∀ b, M b ≠ none → upM M a c b ≠ none := fun b hb => by
  by_cases e : b = a
  · rw [e, upM_same]
    exact fun w => nomatch w
  · rw [upM_ne e]
    exact hb
/-- a cell of the asker changes -/
theorem Go.up {M : Mh} {A : Ad} {b : Addr} {c : Cell} (h : b ∈ fp A) : Go M (upM M b c) A A := ⟨fun x y hx hn => by rw [upM_ne (fun z => hn (by rw [z]; exact h))]; exact hx, rfl, .inl rfl, bk_up⟩
/-! which cells stand apart -/
def tagC : Cell → Nat
  | .lst _ => 0
  | .dic _ => 1
  | .ins _ ns _ => 2 + ns.length + (if ns = rdNs then 100 else 0)
theorem ne_tag {M : Mh} {a b : Addr} {c d : Cell} (h : M a = some c) (h2 : M b = some d) (n : tagC c ≠ tagC d) : a ≠ b := fun z => by
  rw [z, h2] at h
  cases h
  exact n rfl
section
variable {g : G} {M : Mh} {A : Ad} {R : Ru} {ss : List (List Nat)} {x : As}
theorem tag_ak : tagC (akC g A R x) = 18 := by
  show 2 + 16 + (if akNs = rdNs then 100 else 0) = 18
  rw [if_neg (by decide)]
theorem tag_st {r : Addr} : tagC (.ins g.cS ["rows"] [.ref r]) = 3 := by
  show 2 + 1 + (if _ = rdNs then 100 else 0) = 3
  rw [if_neg (by decide)]
theorem tag_rd {dl : List (Option Int)} {n : Nat} {u : Addr} : tagC (rdC g dl n u) = 105 := by
  show 2 + 3 + (if rdNs = rdNs then 100 else 0) = 105
  rw [if_pos rfl]
theorem tag_sh {m : Nat} {t : Int} {ks : List Ke} : tagC (shC g m t ks) = 5 := by
  show 2 + 3 + (if shNs = rdNs then 100 else 0) = 5
  rw [if_neg (by decide)]
theorem tag_lst {ds : List D} : tagC (.lst ds) = 0 := rfl
theorem tag_dic {ds : List (Key × D)} : tagC (.dic ds) = 1 := rfl
/-- the asker's own object changes -/
theorem IsAs.obj (h : IsAs g M A R ss x) (x' : As) (e1 : x'.asked = x.asked := by rfl) (e2 : x'.flying = x.flying := by rfl) (e3 : x'.log = x.log := by rfl) (e4 : x'.ks = x.ks := by rfl) (e5 : x'.sent = x.sent := by rfl) (e6 : x'.ws = x.ws := by rfl) : IsAs g (upM M A.a (akC g A R x')) A R ss x' where
  ob := upM_same
  da := by rw [upM_ne (ne_tag h.da h.ob (by rw [tag_ak, tag_dic]; decide)), h.da]; unfold kvA; rw [e1]
  df := by rw [upM_ne (ne_tag h.df h.ob (by rw [tag_ak, tag_dic]; decide)), h.df]; unfold kvF; rw [e2]
  lg := by rw [upM_ne (ne_tag h.lg h.ob (by rw [tag_ak, tag_lst]; decide)), h.lg, e3]
  st := ⟨by rw [upM_ne (ne_tag h.st.ob h.ob (by rw [tag_ak, tag_st]; decide))]; exact h.st.ob, by rw [upM_ne (ne_tag h.st.rs h.ob (by rw [tag_ak, tag_lst]; decide))]; exact h.st.rs⟩
  rd := ⟨by rw [upM_ne (ne_tag h.rd.ob h.ob (by rw [tag_ak, tag_rd]; decide)), h.rd.ob, e5], by rw [upM_ne (ne_tag h.rd.us h.ob (by rw [tag_ak, tag_lst]; decide)), h.rd.us, e6]⟩
  sh := by rw [upM_ne (ne_tag h.sh h.ob (by rw [tag_ak, tag_sh]; decide)), h.sh, e4]
  d1 := h.d1
  l1 := h.l1
  l2 := h.l2
  l3 := h.l3
theorem IsAs.setA (h : IsAs g M A R ss x) (l : List (Nat × List Nat)) : IsAs g (upM M A.dA (.dic (kvA { x with asked := l }))) A R ss { x with asked := l } where
  ob := by rw [upM_ne (ne_tag h.ob h.da (by rw [tag_ak, tag_dic]; decide))]; exact h.ob
  da := upM_same
  df := by rw [upM_ne h.d1.symm]; exact h.df
  lg := by rw [upM_ne (ne_tag h.lg h.da (by rw [tag_dic, tag_lst]; decide))]; exact h.lg
  st := ⟨by rw [upM_ne (ne_tag h.st.ob h.da (by rw [tag_dic, tag_st]; decide))]; exact h.st.ob, by rw [upM_ne (ne_tag h.st.rs h.da (by rw [tag_dic, tag_lst]; decide))]; exact h.st.rs⟩
  rd := ⟨by rw [upM_ne (ne_tag h.rd.ob h.da (by rw [tag_dic, tag_rd]; decide))]; exact h.rd.ob, by rw [upM_ne (ne_tag h.rd.us h.da (by rw [tag_dic, tag_lst]; decide))]; exact h.rd.us⟩
  sh := by rw [upM_ne (ne_tag h.sh h.da (by rw [tag_dic, tag_sh]; decide))]; exact h.sh
  d1 := h.d1
  l1 := h.l1
  l2 := h.l2
  l3 := h.l3
theorem IsAs.setF (h : IsAs g M A R ss x) (l : List (Nat × Int)) : IsAs g (upM M A.dF (.dic (kvF { x with flying := l }))) A R ss { x with flying := l } where
  ob := by rw [upM_ne (ne_tag h.ob h.df (by rw [tag_ak, tag_dic]; decide))]; exact h.ob
  da := by rw [upM_ne h.d1]; exact h.da
  df := upM_same
  lg := by rw [upM_ne (ne_tag h.lg h.df (by rw [tag_dic, tag_lst]; decide))]; exact h.lg
  st := ⟨by rw [upM_ne (ne_tag h.st.ob h.df (by rw [tag_dic, tag_st]; decide))]; exact h.st.ob, by rw [upM_ne (ne_tag h.st.rs h.df (by rw [tag_dic, tag_lst]; decide))]; exact h.st.rs⟩
  rd := ⟨by rw [upM_ne (ne_tag h.rd.ob h.df (by rw [tag_dic, tag_rd]; decide))]; exact h.rd.ob, by rw [upM_ne (ne_tag h.rd.us h.df (by rw [tag_dic, tag_lst]; decide))]; exact h.rd.us⟩
  sh := by rw [upM_ne (ne_tag h.sh h.df (by rw [tag_dic, tag_sh]; decide))]; exact h.sh
  d1 := h.d1
  l1 := h.l1
  l2 := h.l2
  l3 := h.l3
theorem IsAs.setL (h : IsAs g M A R ss x) (l : List Lg) : IsAs g (upM M A.lg (.lst (l.map lgD))) A R ss { x with log := l } where
  ob := by rw [upM_ne (ne_tag h.ob h.lg (by rw [tag_ak, tag_lst]; decide))]; exact h.ob
  da := by rw [upM_ne (ne_tag h.da h.lg (by rw [tag_dic, tag_lst]; decide))]; exact h.da
  df := by rw [upM_ne (ne_tag h.df h.lg (by rw [tag_dic, tag_lst]; decide))]; exact h.df
  lg := upM_same
  st := ⟨by rw [upM_ne (ne_tag h.st.ob h.lg (by rw [tag_lst, tag_st]; decide))]; exact h.st.ob, by rw [upM_ne h.l1.symm]; exact h.st.rs⟩
  rd := ⟨by rw [upM_ne (ne_tag h.rd.ob h.lg (by rw [tag_lst, tag_rd]; decide))]; exact h.rd.ob, by rw [upM_ne h.l2.symm]; exact h.rd.us⟩
  sh := by rw [upM_ne (ne_tag h.sh h.lg (by rw [tag_lst, tag_sh]; decide))]; exact h.sh
  d1 := h.d1
  l1 := h.l1
  l2 := h.l2
  l3 := h.l3
theorem IsAs.setK (h : IsAs g M A R ss x) (l : List Ke) : IsAs g (upM M A.sh (shC g R.most R.term l)) A R ss { x with ks := l } where
  ob := by rw [upM_ne (ne_tag h.ob h.sh (by rw [tag_ak, tag_sh]; decide))]; exact h.ob
  da := by rw [upM_ne (ne_tag h.da h.sh (by rw [tag_dic, tag_sh]; decide))]; exact h.da
  df := by rw [upM_ne (ne_tag h.df h.sh (by rw [tag_dic, tag_sh]; decide))]; exact h.df
  lg := by rw [upM_ne (ne_tag h.lg h.sh (by rw [tag_lst, tag_sh]; decide))]; exact h.lg
  st := ⟨by rw [upM_ne (ne_tag h.st.ob h.sh (by rw [tag_sh, tag_st]; decide))]; exact h.st.ob, by rw [upM_ne (ne_tag h.st.rs h.sh (by rw [tag_sh, tag_lst]; decide))]; exact h.st.rs⟩
  rd := ⟨by rw [upM_ne (ne_tag h.rd.ob h.sh (by rw [tag_sh, tag_rd]; decide))]; exact h.rd.ob, by rw [upM_ne (ne_tag h.rd.us h.sh (by rw [tag_sh, tag_lst]; decide))]; exact h.rd.us⟩
  sh := upM_same
  d1 := h.d1
  l1 := h.l1
  l2 := h.l2
  l3 := h.l3
/-- the road's object -/
theorem IsAs.setR (h : IsAs g M A R ss x) {v : Addr} {M2 : Mh} (n : Nat) (ws : List Fl) (hv : v = A.u ∨ M v = none) (e1 : M2 A.rd = some (rdC g R.dl n v)) (e2 : M2 v = some (.lst (ws.map flD))) (e3 : ∀ b c, M b = some c → b ≠ A.rd → b ≠ A.u → M2 b = some c) : IsAs g M2 { A with u := v } R ss { x with sent := n, ws := ws } where
  ob := e3 _ _ h.ob (ne_tag h.ob h.rd.ob (by rw [tag_ak, tag_rd]; decide)) (ne_tag h.ob h.rd.us (by rw [tag_ak, tag_lst]; decide))
  da := e3 _ _ h.da (ne_tag h.da h.rd.ob (by rw [tag_dic, tag_rd]; decide)) (ne_tag h.da h.rd.us (by rw [tag_dic, tag_lst]; decide))
  df := e3 _ _ h.df (ne_tag h.df h.rd.ob (by rw [tag_dic, tag_rd]; decide)) (ne_tag h.df h.rd.us (by rw [tag_dic, tag_lst]; decide))
  lg := e3 _ _ h.lg (ne_tag h.lg h.rd.ob (by rw [tag_lst, tag_rd]; decide)) h.l2
  st := ⟨e3 _ _ h.st.ob (ne_tag h.st.ob h.rd.ob (by rw [tag_st, tag_rd]; decide)) (ne_tag h.st.ob h.rd.us (by rw [tag_st, tag_lst]; decide)), e3 _ _ h.st.rs (ne_tag h.st.rs h.rd.ob (by rw [tag_lst, tag_rd]; decide)) h.l3⟩
  rd := ⟨e1, e2⟩
  sh := e3 _ _ h.sh (ne_tag h.sh h.rd.ob (by rw [tag_sh, tag_rd]; decide)) (ne_tag h.sh h.rd.us (by rw [tag_sh, tag_lst]; decide))
  d1 := h.d1
  l1 := h.l1
  l2 := by
    rcases hv with rfl | hv
    · exact h.l2
    · exact ne_cell h.lg hv
  l3 := by
    rcases hv with rfl | hv
    · exact h.l3
    · exact ne_cell h.st.rs hv
end


/-! ### askers: what always holds of them -/
structure RuOk (R : Ru) : Prop where
  m1 : 1 ≤ R.many
  m6 : R.many ≤ 6
  mo : R.most ≤ 6
  d0 : R.dl ≠ []
  dn : R.dl.length ≤ 1000
def lgOk : Lg → Prop
  | .asked _ k => okT 12 k = true
  | _ => True
/-- k: so many rows of the log are still to come -/
structure AsOk (R : Ru) (k : Nat) (x : As) : Prop where
  now : okT 12 x.now = true
  ak : ∀ p ∈ x.asked, okT 12 p.2 = true ∧ p.1 ≤ x.sent
  an : (x.asked.map (·.1)).Nodup
  fn : (x.flying.map (·.1)).Pairwise (· < ·)
  fs : ∀ p ∈ x.flying, p.1 ≤ x.sent
  wq : ∀ f ∈ x.ws, okT 12 f.q = true
  ko : ∀ e ∈ x.ks, keOk e
  kl : x.ks.length ≤ 6
  so : ∀ s, x.shown = some s → rowsOk s.rows ∧ okT 12 s.key = true
  lo : ∀ l ∈ x.log, lgOk l
  sz : x.log.length + x.asked.length + x.ws.length + k ≤ 3 * x.sent
  fl : x.flying.length ≤ x.sent
theorem part_len {α : Type} (p : α → Bool) : ∀ l : List α, (l.filter p).length + (l.filter fun a => !p a).length = l.length
  | [] => rfl
  | a :: l => by
    have ih := part_len p l
    rw [List.filter_cons, List.filter_cons]
    cases h : p a with
    | true =>
      rw [if_pos rfl, if_neg (by simp), List.length_cons, List.length_cons]
      omega
    | false =>
      rw [if_neg (by simp), if_pos (by simp), List.length_cons, List.length_cons]
      omega
theorem map_nodup {α β : Type} {f : α → β} {l : List α} (p : α → Bool) (h : (l.map f).Nodup) : ((l.filter p).map f).Nodup := List.Nodup.sublist (List.Sublist.map f List.filter_sublist) h
theorem map_pw {α β : Type} {f : α → β} {r : β → β → Prop} {l : List α} (p : α → Bool) (h : (l.map f).Pairwise r) : ((l.filter p).map f).Pairwise r := List.Pairwise.sublist (List.Sublist.map f List.filter_sublist) h
section
variable {R : Ru} {k : Nat} {x : As}
theorem AsOk.mono (h : AsOk R k x) {j : Nat} (hj : j ≤ k) : AsOk R j x := { h with sz := by have := h.sz; omega }
structure Same (x x' : As) : Prop where
  e1 : x'.asked = x.asked
  e2 : x'.flying = x.flying
  e3 : x'.log = x.log
  e4 : x'.ks = x.ks
  e5 : x'.sent = x.sent
  e6 : x'.ws = x.ws
/-- the asker's own fields changed -/
theorem AsOk.own (h : AsOk R k x) (x' : As) (sm : Same x x') (hn : okT 12 x'.now = true) (hs : ∀ s, x'.shown = some s → rowsOk s.rows ∧ okT 12 s.key = true) : AsOk R k x' where
  now := hn
  ak := by rw [sm.e1, sm.e5]; exact h.ak
  an := by rw [sm.e1]; exact h.an
  fn := by rw [sm.e2]; exact h.fn
  fs := by rw [sm.e2, sm.e5]; exact h.fs
  wq := by rw [sm.e6]; exact h.wq
  ko := by rw [sm.e4]; exact h.ko
  kl := by rw [sm.e4]; exact h.kl
  so := hs
  lo := by rw [sm.e3]; exact h.lo
  sz := by rw [sm.e3, sm.e1, sm.e6, sm.e5]; exact h.sz
  fl := by rw [sm.e2, sm.e5]; exact h.fl
theorem AsOk.drop (h : AsOk R k x) (w : Option (List Nat)) : AsOk R k (dropA w x) where
  now := h.now
  ak := fun p hp => h.ak p (List.mem_filter.mp hp).1
  an := map_nodup _ h.an
  fn := h.fn
  fs := h.fs
  wq := h.wq
  ko := h.ko
  kl := h.kl
  so := h.so
  lo := fun l hl => by
    rcases List.mem_append.mp hl with hl | hl
    · exact h.lo l hl
    · obtain ⟨p, _, rfl⟩ := List.mem_map.mp hl
      exact trivial
  sz := by
    have h1 := part_len (fun p : Nat × List Nat => decide (some (fold p.2) = w)) x.asked
    have h2 := h.sz
    show (x.log ++ _).length + (x.asked.filter _).length + x.ws.length + k ≤ 3 * x.sent
    rw [List.length_append, List.length_map]
    omega
  fl := h.fl
theorem best_len {ss : List (List Nat)} {q : List Nat} {n : Nat} : (bestF ss q n).length ≤ ss.length := by
  unfold bestF
  rw [List.length_take]
  have := allBest_len ss q
  omega
theorem best_ok {ss : List (List Nat)} {q : List Nat} {n : Nat} (h : rowsOk ss) : rowsOk (bestF ss q n) := ⟨fun s hs => h.1 s (bestF_mem hs), Nat.le_trans best_len h.2⟩
theorem AsOk.show (h : AsOk R k x) {rows : List (List Nat)} (hr : rowsOk rows) : AsOk R k (showA rows x) := by
  refine AsOk.drop (x := { x with shown := some ⟨fold x.now, rows, false⟩, due := false }) (h.own _ ⟨rfl, rfl, rfl, rfl, rfl, rfl⟩ h.now fun s e => ?_) none
  obtain rfl := Option.some.inj e
  exact ⟨hr, fold_ok h.now⟩
theorem useK_le {ks : List Ke} {e : Ke} (h : e ∈ ks) : (useK ks e).length ≤ ks.length := by
  have h1 := part_len (fun x : Ke => decide (x.key ≠ e.key)) ks
  have h2 : e ∈ ks.filter fun a => !decide (a.key ≠ e.key) := List.mem_filter.mpr ⟨h, by simp⟩
  have h3 := List.length_pos_of_mem h2
  unfold useK
  rw [List.length_append]
  simp only [List.length_cons, List.length_nil]
  omega
theorem AsOk.kept (h : AsOk R k x) (ks : List Ke) (ko : ∀ e ∈ ks, keOk e) (kl : ks.length ≤ 6) : AsOk R k { x with ks := ks } := { h with ko := ko, kl := kl }
theorem AsOk.used (h : AsOk R k x) {e : Ke} (hm : e ∈ x.ks) : AsOk R k { x with ks := useK x.ks e } := h.kept _ (fun y hy => (useK_mem hy).elim (h.ko y) (fun z => by rw [z]; exact h.ko e hm)) (Nat.le_trans (useK_le hm) h.kl)
theorem AsOk.less (h : AsOk R k x) {s : Sw} (hs : x.shown = some s) : AsOk R k (lessA R x s) := by
  refine h.own _ ⟨rfl, rfl, rfl, rfl, rfl, rfl⟩ h.now fun s' e => ?_
  have e : (if bestF s.rows x.now R.many = [] then none else some ⟨s.key, bestF s.rows x.now R.many, true⟩) = some s' := e
  split at e
  · cases e
  · obtain rfl := Option.some.inj e
    exact ⟨best_ok (h.so s hs).1, (h.so s hs).2⟩
theorem AsOk.look (h : AsOk R k x) : AsOk R k (lookA R x) := by
  unfold lookA
  split
  · exact h.own _ ⟨rfl, rfl, rfl, rfl, rfl, rfl⟩ h.now fun s e => nomatch e
  · split
    · rename_i e he
      have hm := (src_mem he).1
      exact (h.used hm).show (best_ok (h.ko e hm).2)
    · split
      · exact h
      · rename_i s hs
        split
        · exact h
        · exact h.less hs
theorem sendW_mem {dl : List (Option Int)} {n : Nat} {ws : List Fl} {q : List Nat} {t : Int} {f : Fl} (h : f ∈ sendW dl n ws q t) : f ∈ ws ∨ ∃ d, f = ⟨t + d, n + 1, q⟩ := by
  unfold sendW at h
  split at h
  · rcases List.mem_append.mp h with h | h
    · exact .inl h
    · exact .inr ⟨_, List.mem_singleton.mp h⟩
  · exact .inl h
theorem sendW_len {dl : List (Option Int)} {n : Nat} {ws : List Fl} {q : List Nat} {t : Int} : (sendW dl n ws q t).length ≤ ws.length + 1 := by
  unfold sendW
  split
  · rw [List.length_append]
    simp
  · omega
theorem AsOk.send (h : AsOk R k x) : AsOk R k (sendA R x) where
  now := h.now
  ak := fun p hp => by
    rcases List.mem_append.mp hp with hp | hp
    · have := h.ak p hp
      exact ⟨this.1, by show p.1 ≤ x.sent + 1; omega⟩
    · rw [List.mem_singleton.mp hp]
      exact ⟨h.now, Nat.le_refl _⟩
  an := by
    show ((x.asked ++ [(x.sent + 1, x.now)]).map (·.1)).Nodup
    rw [List.map_append]
    refine List.nodup_append.mpr ⟨h.an, by simp, fun a ha b hb => ?_⟩
    obtain ⟨p, hp, rfl⟩ := List.mem_map.mp ha
    have h1 := (h.ak p hp).2
    have h2 : b = x.sent + 1 := by simpa using hb
    omega
  fn := by
    show ((x.flying ++ [(x.sent + 1, x.time)]).map (·.1)).Pairwise (· < ·)
    rw [List.map_append]
    refine List.pairwise_append.mpr ⟨h.fn, by simp, fun a ha b hb => ?_⟩
    obtain ⟨p, hp, rfl⟩ := List.mem_map.mp ha
    have h1 := h.fs p hp
    have h2 : b = x.sent + 1 := by simpa using hb
    omega
  fs := fun p hp => by
    rcases List.mem_append.mp hp with hp | hp
    · have := h.fs p hp
      show p.1 ≤ x.sent + 1
      omega
    · rw [List.mem_singleton.mp hp]
      exact Nat.le_refl _
  wq := fun f hf => by
    rcases sendW_mem hf with hf | ⟨d, rfl⟩
    · exact h.wq f hf
    · exact h.now
  ko := h.ko
  kl := h.kl
  so := h.so
  lo := fun l hl => by
    rcases List.mem_append.mp hl with hl | hl
    · exact h.lo l hl
    · rw [List.mem_singleton.mp hl]
      exact fold_ok h.now
  sz := by
    have h1 := h.sz
    have h2 := sendW_len (dl := R.dl) (n := x.sent) (ws := x.ws) (q := x.now) (t := x.time)
    show (x.log ++ _).length + (x.asked ++ _).length + (sendW R.dl x.sent x.ws x.now x.time).length + k ≤ 3 * (x.sent + 1)
    rw [List.length_append, List.length_append]
    simp only [List.length_cons, List.length_nil]
    omega
  fl := by
    have h1 := h.fl
    show (x.flying ++ _).length ≤ x.sent + 1
    rw [List.length_append]
    simp only [List.length_cons, List.length_nil]
    omega
theorem AsOk.ask (h : AsOk R k x) : AsOk R k (askA R x) := by
  unfold askA
  split
  · exact h.send
  · exact h
theorem AsOk.down (h : AsOk R k x) (n : Nat) : AsOk R k (downA n x) where
  now := h.now
  ak := h.ak
  an := h.an
  fn := map_pw _ h.fn
  fs := fun p hp => h.fs p (List.mem_filter.mp hp).1
  wq := h.wq
  ko := h.ko
  kl := h.kl
  so := h.so
  lo := h.lo
  sz := h.sz
  fl := Nat.le_trans (List.length_filter_le _ _) h.fl
theorem filter_lt {α : Type} {p : α → Bool} {l : List α} {a : α} (h : a ∈ l) (hp : p a = false) : (l.filter p).length < l.length := by
  have h1 := part_len p l
  have h2 : a ∈ l.filter fun a => !p a := List.mem_filter.mpr ⟨h, by rw [hp]; rfl⟩
  have := List.length_pos_of_mem h2
  omega
/-- an ask is no more, and told so -/
theorem AsOk.out (h : AsOk R k x) {n : Nat} (hi : isIn n x = true) (l : Lg) (hl : lgOk l) (due : Bool) : AsOk R k { outA n x with log := x.log ++ [l], due := due } where
  now := h.now
  ak := fun p hp => h.ak p (List.mem_filter.mp hp).1
  an := map_nodup _ h.an
  fn := h.fn
  fs := h.fs
  wq := h.wq
  ko := h.ko
  kl := h.kl
  so := h.so
  lo := fun l' hl' => by
    rcases List.mem_append.mp hl' with hl' | hl'
    · exact h.lo l' hl'
    · rw [List.mem_singleton.mp hl']
      exact hl
  sz := by
    have h1 := h.sz
    unfold isIn at hi
    obtain ⟨p, hp, e⟩ := List.any_eq_true.mp hi
    have h2 : (x.asked.filter fun p => decide (p.1 ≠ n)).length < x.asked.length := filter_lt hp (by simpa using e)
    show (x.log ++ [l]).length + (x.asked.filter fun p => decide (p.1 ≠ n)).length + x.ws.length + k ≤ 3 * x.sent
    rw [List.length_append]
    simp only [List.length_cons, List.length_nil]
    omega
  fl := h.fl
theorem AsOk.lost (h : AsOk R k x) (n : Nat) : AsOk R k (lostA R x n) := by
  unfold lostA
  split
  · exact h
  · split
    · split
      · rename_i hi
        exact (h.down n).out (x := downA n x) hi (.lost n) trivial _
      · exact h.down n
    · exact h
theorem AsOk.losts (h : AsOk R k x) : ∀ ns : List Nat, AsOk R k (ns.foldl (lostA R) x) := by
  intro ns
  induction ns generalizing x with
  | nil => exact h
  | cons n ns ih => exact ih (h.lost n)
theorem AsOk.try (h : AsOk R k x) : AsOk R k (tryA R x) := h.losts _
theorem putK_le {most : Nat} {ks : List Ke} {e : Ke} (h : most ≤ 6) : (putK most ks e).length ≤ 6 := Nat.le_trans putK_len h
theorem AsOk.log (h : AsOk R (k + 1) x) (l : Lg) (hl : lgOk l) : AsOk R k { x with log := x.log ++ [l] } where
  now := h.now
  ak := h.ak
  an := h.an
  fn := h.fn
  fs := h.fs
  wq := h.wq
  ko := h.ko
  kl := h.kl
  so := h.so
  lo := fun l' hl' => by
    rcases List.mem_append.mp hl' with hl' | hl'
    · exact h.lo l' hl'
    · rw [List.mem_singleton.mp hl']
      exact hl
  sz := by
    have h1 := h.sz
    show (x.log ++ [l]).length + x.asked.length + x.ws.length + k ≤ 3 * x.sent
    rw [List.length_append]
    simp only [List.length_cons, List.length_nil]
    omega
  fl := h.fl
theorem AsOk.puts (h : AsOk R k x) (hR : RuOk R) {e : Ke} (he : keOk e) : AsOk R k { x with ks := putK R.most x.ks e } := h.kept _ (fun y hy => (putK_mem hy).elim (h.ko y) (fun z => by rw [z]; exact he)) (putK_le hR.mo)
theorem AsOk.arrive (h : AsOk R (k + 1) x) (hR : RuOk R) {ss : List (List Nat)} (hs : rowsOk ss) {f : Fl} (hf : okT 12 f.q = true) : AsOk R k (arriveA R ss x f) := by
  have hk : keOk ⟨fold f.q, bestF ss f.q R.many, decide ((allBest ss f.q).length ≤ R.many), x.time⟩ := ⟨by have := okT_len (fold_ok hf); show (fold f.q).length ≤ 1000; omega, best_ok hs⟩
  have h1 := (h.down f.num).puts hR hk
  unfold arriveA
  split
  · rename_i hi
    refine AsOk.show ?_ (best_ok hs)
    exact (h1.mono (Nat.le_succ k)).out (n := f.num) hi (.came f.num) trivial x.due
  · exact (h1.log (.late f.num) trivial).look
end


/-! ### askers: the promises -/
abbrev FlK (g : G) : Prop := Fld g.K g.cK ["store", "road", "shelf", "rows_most", "pause", "asks_most", "patience", "time", "now", "typed_at", "is_due", "tries", "asked", "flying", "shown", "rows"]
def optS : Option (List Nat) → D
  | none => .non
  | some s => .str s
structure At (g : G) (M : Mh) (A : Ad) (R : Ru) (ss : List (List Nat)) (k : Nat) (x : As) : Prop where
  as : IsAs g M A R ss x
  ok : AsOk R k x
  ru : RuOk R
  rs : rowsOk ss
  le : x.sent ≤ 3300
def ds_Asker_clock (g : G) : DSp := fun xs M Q _ => ∃ (A : Ad) (R : Ru) (ss : List (List Nat)) (x : As), xs = [.ref A.a] ∧ IsAs g M A R ss x ∧ Q (.int x.time) M
abbrev sp_Asker_clock (g : G) : Sp := lift 1 (ds_Asker_clock g)
def ds_Asker_typed (g : G) : DSp := fun xs M Q _ => ∃ (A : Ad) (R : Ru) (ss : List (List Nat)) (x : As), xs = [.ref A.a] ∧ IsAs g M A R ss x ∧ Q (.str x.now) M
abbrev sp_Asker_typed (g : G) : Sp := lift 1 (ds_Asker_typed g)
def ds_Asker_is_waiting (g : G) : DSp := fun xs M Q _ => ∃ (A : Ad) (R : Ru) (ss : List (List Nat)) (x : As), xs = [.ref A.a] ∧ IsAs g M A R ss x ∧ Q (.bl (waitA x)) M
abbrev sp_Asker_is_waiting (g : G) : Sp := lift 1 (ds_Asker_is_waiting g)
def ds_Asker_log (g : G) : DSp := fun xs M Q _ => ∃ (A : Ad) (R : Ru) (ss : List (List Nat)) (x : As), xs = [.ref A.a] ∧ IsAs g M A R ss x ∧ ∀ l, M l = none → Q (.ref l) (upM M l (.lst (x.log.map lgD)))
abbrev sp_Asker_log (g : G) : Sp := lift 1 (ds_Asker_log g)
def viewW (x : As) : List Nat := match x.shown with
  | none => [110, 111, 116, 104, 105, 110, 103]
  | some s => if freshA x s = true then [102, 114, 101, 115, 104] else [111, 108, 100]
def viewK (x : As) : List Nat := match x.shown with
  | none => []
  | some s => s.key
def viewR (x : As) : List (List Nat) := match x.shown with
  | none => []
  | some s => s.rows
def ds_Asker_view (g : G) : DSp := fun xs M Q _ => ∃ (A : Ad) (R : Ru) (ss : List (List Nat)) (x : As) (k : Nat), xs = [.ref A.a] ∧ IsAs g M A R ss x ∧ AsOk R k x ∧ ∀ l, M l = none → Q (.tup [.str (viewW x), .str (viewK x), .ref l]) (upM M l (.lst ((viewR x).map D.str)))
abbrev sp_Asker_view (g : G) : Sp := lift 1 (ds_Asker_view g)
def ds_Asker_is_fresh (g : G) : DSp := fun xs M Q _ => ∃ (A : Ad) (R : Ru) (ss : List (List Nat)) (x : As) (k : Nat) (s : Sw), xs = [.ref A.a] ∧ IsAs g M A R ss x ∧ AsOk R k x ∧ x.shown = some s ∧ Q (.bl (freshA x s)) M
abbrev sp_Asker_is_fresh (g : G) : Sp := lift 1 (ds_Asker_is_fresh g)
def ds_Asker_drop_other (g : G) : DSp := fun xs M Q _ => ∃ (A : Ad) (R : Ru) (ss : List (List Nat)) (x : As) (k : Nat) (w : Option (List Nat)), xs = [.ref A.a, optS w] ∧ At g M A R ss k x ∧ (∀ t, w = some t → okT 20 t = true) ∧
  ∀ M', IsAs g M' A R ss (dropA w x) → Go M M' A A → Q .non M'
abbrev sp_Asker_drop_other (g : G) : Sp := lift 2 (ds_Asker_drop_other g)
def ds_Asker_show (g : G) : DSp := fun xs M Q _ => ∃ (A : Ad) (R : Ru) (ss : List (List Nat)) (x : As) (k : Nat) (rows : List (List Nat)), xs = [.ref A.a, .lst (rows.map D.str)] ∧ At g M A R ss k x ∧ rowsOk rows ∧
  ∀ M', IsAs g M' A R ss (showA rows x) → Go M M' A A → Q .non M'
abbrev sp_Asker_show (g : G) : Sp := lift 2 (ds_Asker_show g)
def ds_Asker_look_near (g : G) : DSp := fun xs M Q _ => ∃ (A : Ad) (R : Ru) (ss : List (List Nat)) (x : As) (k : Nat), xs = [.ref A.a] ∧ At g M A R ss k x ∧ ∀ M', IsAs g M' A R ss (lookA R x) → Go M M' A A → Q .non M'
abbrev sp_Asker_look_near (g : G) : Sp := lift 1 (ds_Asker_look_near g)
def ds_Asker_ask_if_due (g : G) : DSp := fun xs M Q _ => ∃ (A : Ad) (R : Ru) (ss : List (List Nat)) (x : As) (k : Nat), xs = [.ref A.a] ∧ At g M A R ss k x ∧ ∀ M', IsAs g M' A R ss (askA R x) → Go M M' A A → Q .non M'
abbrev sp_Asker_ask_if_due (g : G) : Sp := lift 1 (ds_Asker_ask_if_due g)
def ds_Asker_try_again (g : G) : DSp := fun xs M Q _ => ∃ (A : Ad) (R : Ru) (ss : List (List Nat)) (x : As) (k : Nat), xs = [.ref A.a] ∧ At g M A R ss k x ∧ ∀ M', IsAs g M' A R ss (tryA R x) → Go M M' A A → Q .non M'
abbrev sp_Asker_try_again (g : G) : Sp := lift 1 (ds_Asker_try_again g)
def ds_Asker_step (g : G) : DSp := fun xs M Q _ => ∃ (A : Ad) (R : Ru) (ss : List (List Nat)) (x : As), xs = [.ref A.a] ∧ At g M A R ss 0 x ∧ ∀ M' A', IsAs g M' A' R ss (stepA R ss x) → Go M M' A A' → Q .non M'
abbrev sp_Asker_step (g : G) : Sp := lift 1 (ds_Asker_step g)
def ds_Asker_tick (g : G) : DSp := fun xs M Q E => ∃ (A : Ad) (R : Ru) (ss : List (List Nat)) (x : As) (m : Int), xs = [.ref A.a, .int m] ∧ At g M A R ss 0 x ∧ x.sent + 100 ≤ 3300 ∧
  (0 ≤ m ∧ m ≤ 100 → ∀ M' A', IsAs g M' A' R ss (tickA R ss m.toNat x) → Go M M' A A' → Q .non M') ∧ (¬ (0 ≤ m ∧ m ≤ 100) → E g.cN M)
abbrev sp_Asker_tick (g : G) : Sp := lift 2 (ds_Asker_tick g)
def ds_Asker_put (g : G) : DSp := fun xs M Q E => ∃ (A : Ad) (R : Ru) (ss : List (List Nat)) (x : As) (t : List Nat), xs = [.ref A.a, .str t] ∧ At g M A R ss 0 x ∧ t.length ≤ 1000 ∧
  (okT 12 t = true → ∀ M', IsAs g M' A R ss (putA R t x) → Go M M' A A → Q .non M') ∧ (okT 12 t = false → E g.cT M)
abbrev sp_Asker_put (g : G) : Sp := lift 2 (ds_Asker_put g)
def ds_Asker_key (g : G) : DSp := fun xs M Q E => ∃ (A : Ad) (R : Ru) (ss : List (List Nat)) (x : As) (t : List Nat), xs = [.ref A.a, .str t] ∧ At g M A R ss 0 x ∧ t.length ≤ 900 ∧
  (okT 12 (x.now ++ t) = true → ∀ M', IsAs g M' A R ss (putA R (x.now ++ t) x) → Go M M' A A → Q .non M') ∧ (okT 12 (x.now ++ t) = false → E g.cT M)
abbrev sp_Asker_key (g : G) : Sp := lift 2 (ds_Asker_key g)
def ds_Asker_rub (g : G) : DSp := fun xs M Q E => ∃ (A : Ad) (R : Ru) (ss : List (List Nat)) (x : As), xs = [.ref A.a] ∧ At g M A R ss 0 x ∧
  ∀ M', IsAs g M' A R ss (putA R x.now.dropLast x) → Go M M' A A → Q .non M'
abbrev sp_Asker_rub (g : G) : Sp := lift 1 (ds_Asker_rub g)
def ds_Asker_again (g : G) : DSp := fun xs M Q E => ∃ (A : Ad) (R : Ru) (ss : List (List Nat)) (x : As), xs = [.ref A.a] ∧ At g M A R ss 0 x ∧
  (fold x.now ≠ [] ∧ x.asked = [] → ∀ M', IsAs g M' A R ss (againA R x) → Go M M' A A → Q .non M') ∧ (¬ (fold x.now ≠ [] ∧ x.asked = []) → E g.cA M)
abbrev sp_Asker_again (g : G) : Sp := lift 1 (ds_Asker_again g)
def ruGood (m p k t : Int) : Prop := 0 ≤ p ∧ p ≤ 9 ∧ 1 ≤ k ∧ k ≤ 3 ∧ 1 ≤ t ∧ t ≤ 40
def as0 (n : Nat) (ws : List Fl) (ks : List Ke) : As := ⟨0, [], 0, false, 0, [], [], none, [], ks, n, ws⟩
def ds_Asker___init__ (g : G) : DSp := fun xs M Q E => ∃ (a st sr rd u sh : Addr) (m p k t : Int) (ss : List (List Nat)) (dl : List (Option Int)) (n : Nat) (ws : List Fl) (most : Nat) (term : Int) (ks : List Ke),
  xs = [.ref a, .ref st, .ref rd, .ref sh, .int m, .int p, .int k, .int t] ∧ M a = some (.ins g.cK [] []) ∧ IsSt g M st sr ss ∧ IsRd g M rd u dl n ws ∧ M sh = some (shC g most term ks) ∧ sr ≠ u ∧
  ((1 ≤ m ∧ m ≤ 6) ∧ ruGood m p k t → ∀ M' A, A.a = a ∧ A.st = st ∧ A.sr = sr ∧ A.rd = rd ∧ A.u = u ∧ A.sh = sh → M A.dA = none ∧ M A.dF = none ∧ M A.lg = none → IsAs g M' A ⟨dl, most, term, m.toNat, p, k, t⟩ ss (as0 n ws ks) →
    (∀ b c, M b = some c → b ≠ a → M' b = some c) → Q .non M') ∧ (¬ ((1 ≤ m ∧ m ≤ 6) ∧ ruGood m p k t) → E g.cN M)
abbrev sp_Asker___init__ (g : G) : Sp := lift 8 (ds_Asker___init__ g)
/-! ### helpers of the walk -/
section
variable {W : WX} {X : XD} {ρ : En} {M : Mh} {Q : D → Mh → Prop} {B : DE} {g : G} {A : Ad} {R : Ru} {ss : List (List Nat)} {x : As}
theorem l_ak (fl : FlK g) {f : Str} (i : Nat) (hi : akNs[i]? = some f) {d : D} (hρ : ρ[0]? = some (some (.ref A.a))) (h : IsAs g M A R ss x) (hd : (akD A R x)[i]? = some d) (q : Q d M) : lE W (tFld g.K (tVar 0) f) ρ M Q X :=
  l_fld fl i hi (l_var hρ ⟨A.a, _, d, rfl, h.ob, hd, q⟩)
theorem fp_a (A : Ad) : A.a ∈ fp A := List.mem_cons_self
theorem fp_dA (A : Ad) : A.dA ∈ fp A := by unfold fp; simp
theorem fp_dF (A : Ad) : A.dF ∈ fp A := by unfold fp; simp
theorem fp_lg (A : Ad) : A.lg ∈ fp A := by unfold fp; simp
theorem fp_rd (A : Ad) : A.rd ∈ fp A := by unfold fp; simp
theorem fp_sh (A : Ad) : A.sh ∈ fp A := by unfold fp; simp
/-- a field of the asker's own -/
theorem s_ak (fl : FlK g) {f : Str} (i : Nat) (hi : akNs[i]? = some f) (hρ : ρ[0]? = some (some (.ref A.a))) {tv : TE} (h : lE W tv ρ M (fun y M1 => ∃ (A' : Ad) (R : Ru) (ss : List (List Nat)) (x x' : As), A'.a = A.a ∧ IsAs g M1 A' R ss x ∧ (akD A' R x).set i y = akD A' R x' ∧ Same x x' ∧
    ∀ M2, IsAs g M2 A' R ss x' → Go M1 M2 A' A' → B.nx ρ M2) X) : lS W (sFld g.K (tVar 0) tv f) ρ M B X := by
  refine s_fld fl i hi (lE_mono h ?_)
  rintro y M1 ⟨A', R, ss, x, x', ea, h, hd, sm, q⟩
  refine l_var hρ ⟨A.a, akD A' R x, rfl, by rw [← ea]; exact h.ob, ?_⟩
  rw [hd, ← ea]
  exact q _ (h.obj x' sm.e1 sm.e2 sm.e3 sm.e4 sm.e5 sm.e6) (Go.up (fp_a A'))
end
theorem Go.off {M M' : Mh} {A A' : Ad} (h : Go M M' A A') {b : Addr} {c : Cell} (hb : M b = some c) (hn : b ∉ fp A) : M' b = some c ∧ b ∉ fp A' := by
  refine ⟨h.kp b c hb hn, fp_u h.sm hn ?_⟩
  rcases h.fr with e | e
  · rw [e]
    exact fun z => hn (by rw [z]; exact u_fp A)
  · exact fun z => by rw [z, e] at hb; cases hb
theorem ok20 {s : List Nat} (h : okT 12 s = true) : okT 20 s = true := okT_mono h (by omega)
theorem no20 {s : List Nat} {P : Prop} (h : okT 12 s = true) (z : okT 20 s = false) : P := absurd (ok20 h) (by rw [z]; exact Bool.false_ne_true)
abbrev nm_Asker_clock : List Str := ["self"]
def t_Asker_clock (g : G) (W : WX) : TS := (tRet (tFld g.K (tVar 0) "time"))
abbrev nm_Asker_typed : List Str := ["self"]
def t_Asker_typed (g : G) (W : WX) : TS := (tRet (tFld g.K (tVar 0) "now"))
abbrev nm_Asker_is_waiting : List Str := ["self"]
def t_Asker_is_waiting (g : G) (W : WX) : TS := (tRet (tOrV (tFld g.K (tVar 0) "is_due") (tOp (rGtA) (tCB (rLenA g.K) (tCons (tFld g.K (tVar 0) "asked") tNil)) (tC (.int 0)))))
abbrev nm_Asker_log : List Str := ["self"]
def t_Asker_log (g : G) (W : WX) : TS := (tRet (tCB (rListA g.K) (tCons (tFld g.K (tVar 0) "rows") tNil)))
abbrev nm_Asker_is_fresh : List Str := ["self"]
def t_Asker_is_fresh (g : G) (W : WX) : TS := (tRet (tAndV (tOp (rEqA g.K) (tOp (rIx g.K) (tFld g.K (tVar 0) "shown") (tC (.int 0))) (tCallS (sp_folded g) (WE W) (tCons (tFld g.K (tVar 0) "now") tNil))) (tNotV (tOp (rIx g.K) (tFld g.K (tVar 0) "shown") (tC (.int 2))))))
abbrev nm_Asker_view : List Str := ["self", "word"]
def t_Asker_view (g : G) (W : WX) : TS := (tSeq (tIfS (tTest (tOp (rIsNo) (tFld g.K (tVar 0) "shown") (tC .non))) (tRet (tTup (tCons (tC (.str (S [110, 111, 116, 104, 105, 110, 103]))) (tCons (tC (.str (S []))) (tCons (tLst tNil) tNil))))) tNext) (tSeq (tAsg (tIf (tB (tMethS g.cK "is_fresh" (sp_Asker_is_fresh g) (WE W) (tVar 0) tNil)) (tC (.str (S [102, 114, 101, 115, 104]))) (tC (.str (S [111, 108, 100])))) (gName 1)) (tRet (tTup (tCons (tVar 1) (tCons (tOp (rIx g.K) (tFld g.K (tVar 0) "shown") (tC (.int 0))) (tCons (tCB (rListA g.K) (tCons (tOp (rIx g.K) (tFld g.K (tVar 0) "shown") (tC (.int 1))) tNil)) tNil)))))))


theorem d_Asker_clock {g : G} (fl : FlK g) : Keeps 1 nm_Asker_clock (t_Asker_clock g) (ds_Asker_clock g) := by
  rintro W xs M Q E - ⟨A, R, ss, x, rfl, h, q⟩
  show lS W (t_Asker_clock g W) [some (.ref A.a)] M _ _
  unfold t_Asker_clock
  walk_at "d"
  exact l_ak fl 7 rfl rfl h rfl q
theorem d_Asker_typed {g : G} (fl : FlK g) : Keeps 1 nm_Asker_typed (t_Asker_typed g) (ds_Asker_typed g) := by
  rintro W xs M Q E - ⟨A, R, ss, x, rfl, h, q⟩
  show lS W (t_Asker_typed g W) [some (.ref A.a)] M _ _
  unfold t_Asker_typed
  walk_at "d"
  exact l_ak fl 8 rfl rfl h rfl q
theorem kvA_len (x : As) : (kvA x).length = x.asked.length := List.length_map _
theorem kvF_len (x : As) : (kvF x).length = x.flying.length := List.length_map _
theorem d_Asker_is_waiting {g : G} (fl : FlK g) : Keeps 1 nm_Asker_is_waiting (t_Asker_is_waiting g) (ds_Asker_is_waiting g) := by
  rintro W xs M Q E - ⟨A, R, ss, x, rfl, h, q⟩
  show lS W (t_Asker_is_waiting g W) [some (.ref A.a)] M _ _
  unfold t_Asker_is_waiting
  unfold waitA at q
  walk_at "d"
  refine l_ak fl 10 rfl rfl h rfl ?_
  refine ⟨_, rfl, fun e => ?_, fun e => ?_⟩
  · rw [e] at q
    exact q
  · rw [e, Bool.false_or] at q
    walk_at "d"
    refine l_ak fl 12 rfl rfl h rfl ?_
    refine a_nil (c_lenD h.da ?_)
    walk_at "d"
    rw [kvA_len]
    have e2 : decide ((0 : Int) < (x.asked.length : Int)) = decide (0 < x.asked.length) := by
      by_cases z : 0 < x.asked.length
      · rw [decide_eq_true z, decide_eq_true (by omega)]
      · rw [decide_eq_false z, decide_eq_false (by omega)]
    rw [e2]
    exact q
theorem d_Asker_log {g : G} (fl : FlK g) : Keeps 1 nm_Asker_log (t_Asker_log g) (ds_Asker_log g) := by
  rintro W xs M Q E - ⟨A, R, ss, x, rfl, h, q⟩
  show lS W (t_Asker_log g W) [some (.ref A.a)] M _ _
  unfold t_Asker_log
  walk_at "d"
  refine l_ak fl 15 rfl rfl h rfl ?_
  walk_at "d"
  exact c_listM (.inl (isL_ref h.lg)) q
theorem d_Asker_is_fresh {g : G} (fl : FlK g) : Keeps 1 nm_Asker_is_fresh (t_Asker_is_fresh g) (ds_Asker_is_fresh g) := by
  rintro W xs M Q E - ⟨A, R, ss, x, k, s, rfl, h, ok, hs, q⟩
  show lS W (t_Asker_is_fresh g W) [some (.ref A.a)] M _ _
  unfold t_Asker_is_fresh
  unfold freshA at q
  have hd : (akD A R x)[14]? = some (swD (some s)) := by rw [← hs]; rfl
  have hl := okT_len ok.now
  walk_at "d"
  refine l_ak fl 14 rfl rfl h hd ?_
  walk_at "d"
  refine r_ix (ds := [.str s.key, .lst (s.rows.map D.str), .bl s.less]) (.inr rfl) rfl ?_
  walk_at "d"
  refine l_ak fl 8 rfl rfl h rfl ?_
  walk_at "d"
  refine ⟨by omega, fun _ => ?_, fun z => no20 ok.now z⟩
  walk_at "d"
  refine ⟨fun e => ?_, fun e => ?_⟩
  · rw [e, Bool.true_and] at q
    walk_at "d"
    refine l_ak fl 14 rfl rfl h hd ?_
    walk_at "d"
    refine r_ix (ds := [.str s.key, .lst (s.rows.map D.str), .bl s.less]) (.inr rfl) rfl ?_
    walk_at "d"
    exact q
  · rw [e, Bool.false_and] at q
    exact q
theorem d_Asker_view {g : G} (fl : FlK g) : Keeps 1 nm_Asker_view (t_Asker_view g) (ds_Asker_view g) := by
  rintro W xs M Q E - ⟨A, R, ss, x, k, rfl, h, ok, q⟩
  show lS W (t_Asker_view g W) [some (.ref A.a), none] M _ _
  unfold t_Asker_view
  unfold viewW viewK viewR at q
  walk_at "d"
  cases hs : x.shown with
  | none =>
    have hd : (akD A R x)[14]? = some .non := by show some (swD x.shown) = _; rw [hs]; rfl
    rw [hs] at q
    refine l_ak fl 14 rfl rfl h hd ?_
    walk_at "d"
    refine br_t ?_
    walk_at "d"
    refine l_lstM ?_
    walk_at "d"
    intro l hl
    walk_at "d"
    exact q l hl
  | some s =>
    have hd : (akD A R x)[14]? = some (swD (some s)) := by rw [← hs]; rfl
    rw [hs] at q
    refine l_ak fl 14 rfl rfl h hd ?_
    unfold swD
    walk_at "d"
    refine br_f ?_
    walk_at "d"
    refine l_meth ?_
    walk_at "d"
    refine ⟨A.a, _, _, rfl, h.ob, by decide, ?_⟩
    walk_at "d"
    refine ⟨A, R, ss, x, k, s, rfl, h, ok, hs, ?_⟩
    refine ⟨_, rfl, ?_⟩
    have fin : ∀ (w : List Nat) (B : DE), (∀ l, M l = none → B.rt (.tup [.str w, .str s.key, .ref l]) (upM M l (.lst (s.rows.map D.str)))) → lS W (tRet (tTup (tCons (tVar 1) (tCons (tOp (rIx g.K) (tFld g.K (tVar 0) "shown") (tC (.int 0))) (tCons (tCB (rListA g.K) (tCons (tOp (rIx g.K) (tFld g.K (tVar 0) "shown") (tC (.int 1))) tNil)) tNil))))) [some (.ref A.a), some (.str w)] M B fun c _ M' => E c M' := by
      intro w B hB
      walk_at "d"
      refine l_ak fl 14 rfl rfl h hd ?_
      walk_at "d"
      refine r_ix (ds := [.str s.key, .lst (s.rows.map D.str), .bl s.less]) (.inr rfl) rfl ?_
      walk_at "d"
      refine l_ak fl 14 rfl rfl h hd ?_
      walk_at "d"
      refine r_ix (ds := [.str s.key, .lst (s.rows.map D.str), .bl s.less]) (.inr rfl) rfl ?_
      walk_at "d"
      refine c_listM (.inl isL_lst) fun l hl => ?_
      walk_at "d"
      exact hB l hl
    refine ⟨fun e => ?_, fun e => ?_⟩
    · walk_at "d1"
      walk_at "d1"
      refine fin _ _ fun l hl => ?_
      have := q l hl
      simp only [e, if_true] at this
      exact this
    · walk_at "d1"
      walk_at "d1"
      refine fin _ _ fun l hl => ?_
      have := q l hl
      simp only [e, Bool.false_eq_true, if_false] at this
      exact this
abbrev nm_Asker_drop_other : List Str := ["self", "wanted", "number"]
def t_Asker_drop_other (g : G) (W : WX) : TS := (tFor (iList g.K (tCB (rListK) (tCons (tKeysA (tFld g.K (tVar 0) "asked")) tNil))) (gName 2) (tIfS (tTest (tOp (rNeA g.K) (tCallS (sp_folded g) (WE W) (tCons (tDGet (tFld g.K (tVar 0) "asked") (tVar 2)) tNil)) (tVar 1))) (tSeq (tDrop (tDPop1 (tFld g.K (tVar 0) "asked") (tVar 2))) (tDrop (tBM g.K "list" (rAppend) (tFld g.K (tVar 0) "rows") (tCons (tTup (tCons (tC (.str (S [111, 102, 102]))) (tCons (tVar 2) tNil))) tNil)))) tNext))
abbrev nm_Asker_show : List Str := ["self", "some"]
def t_Asker_show (g : G) (W : WX) : TS := (tSeq (sFld g.K (tVar 0) (tTup (tCons (tCallS (sp_folded g) (WE W) (tCons (tFld g.K (tVar 0) "now") tNil)) (tCons (tVar 1) (tCons (tC (.bl false)) tNil)))) "shown") (tSeq (sFld g.K (tVar 0) (tC (.bl false)) "is_due") (tDrop (tMethS g.cK "drop_other" (sp_Asker_drop_other g) (WE W) (tVar 0) (tCons (tC .non) tNil)))))
abbrev nm_Asker_look_near : List Str := ["self", "found", "some"]
def t_Asker_look_near (g : G) (W : WX) : TS := (tSeq (tIfS (tTest (tOp (rEqA g.K) (tCallS (sp_folded g) (WE W) (tCons (tFld g.K (tVar 0) "now") tNil)) (tC (.str (S []))))) (tSeq (sFld g.K (tVar 0) (tC (.bl false)) "is_due") (tSeq (sFld g.K (tVar 0) (tC .non) "shown") tRetN)) tNext) (tSeq (tAsg (tMethS g.cH "get" (sp_Shelf_get g) (WE W) (tFld g.K (tVar 0) "shelf") (tCons (tFld g.K (tVar 0) "now") (tCons (tFld g.K (tVar 0) "rows_most") (tCons (tFld g.K (tVar 0) "time") tNil)))) (gName 1)) (tIfS (tTest (tOp (rNotNo) (tVar 1) (tC .non))) (tDrop (tMethS g.cK "show" (sp_Asker_show g) (WE W) (tVar 0) (tCons (tVar 1) tNil))) (tIfS (tAnd (tTest (tOp (rNotNo) (tFld g.K (tVar 0) "shown") (tC .non))) (tNot (tB (tMethS g.cK "is_fresh" (sp_Asker_is_fresh g) (WE W) (tVar 0) tNil)))) (tSeq (tAsg (tCallS (sp_best g) (WE W) (tCons (tOp (rIx g.K) (tFld g.K (tVar 0) "shown") (tC (.int 1))) (tCons (tFld g.K (tVar 0) "now") (tCons (tFld g.K (tVar 0) "rows_most") tNil)))) (gName 2)) (sFld g.K (tVar 0) (tIf (tTruA g.K (tVar 2)) (tTup (tCons (tOp (rIx g.K) (tFld g.K (tVar 0) "shown") (tC (.int 0))) (tCons (tVar 2) (tCons (tC (.bl true)) tNil)))) (tC .non)) "shown")) tNext))))


/-! ### askers: the walk -/
section
variable {W : WX} {X : XD} {ρ : En} {M : Mh} {Q : D → Mh → Prop} {B : DE} {g : G} {A : Ad} {R : Ru} {ss : List (List Nat)} {x : As}
theorem l_akM {m : Str} {n : Nat} {sp : DSp} {t : TA} (hm : m ∉ akNs) (hρ : ρ[0]? = some (some (.ref A.a))) (h : IsAs g M A R ss x) (q : lA W t ρ M (fun xs M2 => (D.ref A.a :: xs).length = n ∧ sp (.ref A.a :: xs) M2 Q (fun c M3 => X c ρ M3)) X) : lE W (tMethS g.cK m (lift n sp) (WE W) (tVar 0) t) ρ M Q X :=
  l_meth (l_var hρ ⟨A.a, akNs, _, rfl, h.ob, hm, q⟩)
theorem r_neO {K : PySem.W.Frag} {a : List Nat} {w : Option (List Nat)} (ha : ∀ c ∈ a, c < 1114112) (q : Q (.bl (!decide (some a = w))) M) : lR (rNeA K) (.str a) (optS w) M Q := by
  cases w with
  | none =>
    refine r_neD (d := .str a) (e := .non) asD_self asD_self (OkN.str (n := 0) ha).ok rfl ?_
    exact q
  | some b =>
    refine r_neS ?_
    have e : decide (some a = some b) = decide (a = b) := by
      by_cases z : a = b
      · rw [decide_eq_true z, decide_eq_true (by rw [z])]
      · rw [decide_eq_false z, decide_eq_false (fun y => z (Option.some.inj y))]
    rw [e] at q
    exact q
end
theorem fold_big {m : Nat} {s : List Nat} (h : okT m s = true) : ∀ c ∈ fold s, c < 1114112 := fun c hc => by
  have := okC_asc (okT_all (fold_ok h) c hc)
  omega
theorem valD_asked : ∀ {l : List (Nat × List Nat)} {p : Nat × List Nat}, (l.map (·.1)).Nodup → p ∈ l → valD (l.map fun p => ((.inl (p.1 : Int) : Key), D.str p.2)) (.inl (p.1 : Int)) = some (.str p.2)
  | [], _, _, h => absurd h (by simp)
  | a :: l, p, hn, h => by
    have h1 := List.nodup_cons.mp (show (a.1 :: l.map (·.1)).Nodup from hn)
    unfold valD
    rw [List.map_cons, List.find?_cons]
    by_cases z : a.1 = p.1
    · have e : a = p := by
        rcases List.mem_cons.mp h with e | e
        · exact e.symm
        · exact absurd (List.mem_map.mpr ⟨p, e, z.symm⟩) h1.1
      rw [e]
      simp
    · have hp : p ∈ l := (List.mem_cons.mp h).resolve_left fun e => z (by rw [e])
      have hz : decide ((Sum.inl (a.1 : Int) : Key) = .inl (p.1 : Int)) = false := decide_eq_false fun e => z (by injection e with e; omega)
      simp only [hz]
      exact valD_asked h1.2 hp
theorem valD_asked0 : ∀ {l : List (Nat × List Nat)} {n : Nat}, (∀ p ∈ l, p.1 ≠ n) → valD (l.map fun p => ((.inl (p.1 : Int) : Key), D.str p.2)) (.inl (n : Int)) = none
  | [], _, _ => rfl
  | a :: l, n, h => by
    unfold valD
    rw [List.map_cons, List.find?_cons]
    have hz : decide ((Sum.inl (a.1 : Int) : Key) = .inl (n : Int)) = false := decide_eq_false fun e => h a List.mem_cons_self (by injection e with e; omega)
    simp only [hz]
    exact valD_asked0 fun p hp => h p (List.mem_cons_of_mem _ hp)
theorem valD_flying : ∀ {l : List (Nat × Int)} {n : Nat}, valD (l.map fun p => ((.inl (p.1 : Int) : Key), D.int p.2)) (.inl (n : Int)) = (l.find? fun p => decide (p.1 = n)).map fun p => D.int p.2
  | [], _ => rfl
  | a :: l, n => by
    have ih := valD_flying (l := l) (n := n)
    unfold valD at ih ⊢
    rw [List.map_cons, List.find?_cons, List.find?_cons]
    by_cases z : a.1 = n
    · have hz : decide ((Sum.inl (a.1 : Int) : Key) = .inl (n : Int)) = true := decide_eq_true (by rw [z])
      simp only [hz, decide_eq_true z]
      rfl
    · have hz : decide ((Sum.inl (a.1 : Int) : Key) = .inl (n : Int)) = false := decide_eq_false fun e => z (by injection e with e; omega)
      simp only [hz, decide_eq_false z]
      exact ih
theorem key_dec (a n : Nat) : decide ((Sum.inl (a : Int) : Key) ≠ .inl (n : Int)) = decide (a ≠ n) := decide_eq_decide.mpr ⟨fun h z => h (by rw [z]), fun h z => h (by injection z with z; omega)⟩
theorem kvA_drop (x : As) (n : Nat) : dropD (kvA x) (.inl (n : Int)) = kvA (outA n x) := by
  unfold dropD kvA outA
  rw [List.filter_map]
  congr 1
  refine List.filter_congr fun p _ => ?_
  exact key_dec p.1 n
theorem kvF_drop (x : As) (n : Nat) : dropD (kvF x) (.inl (n : Int)) = kvF (downA n x) := by
  unfold dropD kvF downA
  rw [List.filter_map]
  congr 1
  refine List.filter_congr fun p _ => ?_
  exact key_dec p.1 n
theorem any_asked (x : As) (n : Nat) : (valD (kvA x) (.inl (n : Int))).isSome = isIn n x := by
  unfold isIn kvA valD
  rw [Option.isSome_map]
  induction x.asked with
  | nil => rfl
  | cons a l ih =>
    rw [List.map_cons, List.find?_cons, List.any_cons]
    by_cases z : a.1 = n
    · have hz : decide ((Sum.inl (a.1 : Int) : Key) = .inl (n : Int)) = true := decide_eq_true (by rw [z])
      simp only [hz, decide_eq_true z]
      rfl
    · have hz : decide ((Sum.inl (a.1 : Int) : Key) = .inl (n : Int)) = false := decide_eq_false fun e => z (by injection e with e; omega)
      simp only [hz, decide_eq_false z, Bool.false_or]
      exact ih
theorem putD_new {kvs : List (Key × D)} {k : Key} {v : D} (h : ∀ p ∈ kvs, p.1 ≠ k) : putD kvs k v = kvs ++ [(k, v)] := by
  unfold putD
  rw [if_neg]
  rw [List.any_eq_true]
  rintro ⟨p, hp, e⟩
  exact h p hp (of_decide_eq_true e)
/-- so far called off -/
def dropI (w : Option (List Nat)) (i : Nat) (x : As) : As :=
  { x with asked := (x.asked.take i).filter (fun p => decide (some (fold p.2) = w)) ++ x.asked.drop i, log := x.log ++ ((x.asked.take i).filter fun p => !decide (some (fold p.2) = w)).map fun p => Lg.off p.1 }
theorem dropI_zero (w : Option (List Nat)) (x : As) : dropI w 0 x = x := by
  unfold dropI
  simp
theorem dropI_end (w : Option (List Nat)) (x : As) : dropI w x.asked.length x = dropA w x := by
  unfold dropI dropA
  rw [List.take_length, List.drop_length, List.append_nil]
theorem drop_at {α : Type} {l : List α} {i : Nat} {a : α} (h : l[i]? = some a) : l.drop i = a :: l.drop (i + 1) := by
  obtain ⟨hlt, e⟩ := List.getElem?_eq_some_iff.mp h
  rw [← e]
  exact List.drop_eq_getElem_cons hlt
theorem dropI_keep {w : Option (List Nat)} {i : Nat} {x : As} {p : Nat × List Nat} (hp : x.asked[i]? = some p) (h : some (fold p.2) = w) : dropI w (i + 1) x = dropI w i x := by
  unfold dropI
  rw [take_succ_get hp, drop_at hp, List.filter_append, List.filter_append]
  simp [h]
theorem dropI_nd {w : Option (List Nat)} {i : Nat} {x : As} (h : (x.asked.map (·.1)).Nodup) : ((dropI w i x).asked.map (·.1)).Nodup := by
  refine List.Nodup.sublist (List.Sublist.map _ ?_) h
  show ((x.asked.take i).filter _ ++ x.asked.drop i).Sublist x.asked
  conv => rhs; rw [← List.take_append_drop i x.asked]
  exact List.Sublist.append List.filter_sublist (List.Sublist.refl _)
theorem dropI_off {w : Option (List Nat)} {i : Nat} {x : As} {p : Nat × List Nat} (hn : (x.asked.map (·.1)).Nodup) (hp : x.asked[i]? = some p) (h : some (fold p.2) ≠ w) : dropI w (i + 1) x = { outA p.1 (dropI w i x) with log := (dropI w i x).log ++ [.off p.1] } := by
  have hnd2 : (((x.asked.take i).filter (fun p => decide (some (fold p.2) = w)) ++ x.asked.drop i).map (·.1)).Nodup := dropI_nd (w := w) (i := i) hn
  unfold dropI outA
  rw [drop_at hp] at hnd2
  rw [take_succ_get hp, drop_at hp]
  simp only [List.filter_append]
  have e1 : List.filter (fun p => decide (some (fold p.2) = w)) [p] = [] := by simp [h]
  have e2 : List.filter (fun p => !decide (some (fold p.2) = w)) [p] = [p] := by simp [h]
  rw [e1, e2, List.append_nil, List.map_append, ← List.append_assoc]
  rw [List.map_append, List.map_cons] at hnd2
  have hq := List.nodup_append.mp hnd2
  have e3 : List.filter (fun q : Nat × List Nat => decide (q.1 ≠ p.1)) (List.filter (fun p => decide (some (fold p.2) = w)) (List.take i x.asked)) = List.filter (fun p => decide (some (fold p.2) = w)) (List.take i x.asked) := List.filter_eq_self.mpr fun q hq' => decide_eq_true fun e => hq.2.2 q.1 (List.mem_map.mpr ⟨q, hq', rfl⟩) p.1 (by simp) e
  have e4 : List.filter (fun q : Nat × List Nat => decide (q.1 ≠ p.1)) (p :: List.drop (i + 1) x.asked) = List.drop (i + 1) x.asked := by
    rw [List.filter_cons, if_neg (by simp)]
    exact List.filter_eq_self.mpr fun q hq' => decide_eq_true fun e => (List.nodup_cons.mp hq.2.1).1 (List.mem_map.mpr ⟨q, hq', e⟩)
  rw [e3, e4]
  rfl
theorem d_Asker_drop_other {g : G} (fl : FlK g) : Keeps 2 nm_Asker_drop_other (t_Asker_drop_other g) (ds_Asker_drop_other g) := by
  rintro W xs M Q E - ⟨A, R, ss, x, k, w, rfl, h, hw, q⟩
  show lS W (t_Asker_drop_other g W) [some (.ref A.a), some (optS w), none] M _ _
  unfold t_Asker_drop_other
  refine s_for (i_list (l_listKeys (l_ak fl 12 rfl rfl h.as rfl ⟨A.dA, kvA x, rfl, h.as.da, _, isL_lst, fun i ρ M' => ∃ y, ρ = [some (.ref A.a), some (optS w), y] ∧ IsAs g M' A R ss (dropI w i x) ∧ Go M M' A A, ⟨none, rfl, by rw [dropI_zero]; exact h.as, Go.refl M A⟩, fun _ _ _ _ => isL_lst, ?_, ?_⟩)))
  · rintro i ρ' M' d hd ⟨y, rfl, h1, go⟩
    obtain ⟨p, hp, rfl⟩ : ∃ p, x.asked[i]? = some p ∧ d = .int (p.1 : Int) := by
      unfold kvA at hd
      rw [List.map_map, List.getElem?_map] at hd
      cases e : x.asked[i]? with
      | none => rw [e] at hd; cases hd
      | some p => rw [e] at hd; exact ⟨p, rfl, (Option.some.inj hd).symm⟩
    have hpok := (h.ok.ak p (List.mem_of_getElem? hp)).1
    have hpl := okT_len hpok
    have hnd := dropI_nd (w := w) (i := i) h.ok.an
    have hmem : p ∈ (dropI w i x).asked := List.mem_append_right _ (by rw [drop_at hp]; exact List.mem_cons_self)
    have hval : valD (kvA (dropI w i x)) (.inl (p.1 : Int)) = some (.str p.2) := valD_asked hnd hmem
    walk_at "d"
    refine l_dget (l_ak fl 12 rfl rfl h1 rfl ?_)
    walk_at "d"
    refine ⟨A.dA, _, .inl (p.1 : Int), _, rfl, h1.da, rfl, hval, ?_⟩
    walk_at "d"
    refine ⟨by omega, fun _ => ?_, fun z => no20 hpok z⟩
    walk_at "d"
    refine r_neO (fold_big hpok) ?_
    refine ⟨_, rfl, fun e => ?_, fun e => ?_⟩
    · have e : some (fold p.2) ≠ w := by simpa using e
      walk_at "d"
      refine l_dpop1 (l_ak fl 12 rfl rfl h1 rfl ⟨A.dA, _, rfl, h1.da, ?_⟩)
      walk_at "d"
      refine ⟨_, .inl (p.1 : Int), _, h1.da, rfl, hval, ?_⟩
      rw [kvA_drop]
      have h2 := h1.setA (outA p.1 (dropI w i x)).asked
      have g2 : Go M' (upM M' A.dA (.dic (kvA (outA p.1 (dropI w i x))))) A A := Go.up (fp_dA A)
      have h2 : IsAs g (upM M' A.dA (.dic (kvA (outA p.1 (dropI w i x))))) A R ss (outA p.1 (dropI w i x)) := h2
      generalize upM M' A.dA (.dic (kvA (outA p.1 (dropI w i x)))) = M2 at h2 g2
      walk_at "d"
      refine l_bmL (l_ak fl 15 rfl rfl h2 rfl ⟨⟨_, isL_ref h2.lg⟩, ?_⟩)
      walk_at "d"
      have hlen : ((dropI w i x).log.map lgD).length ≤ 100000 := by
        have h3 := h.ok.sz
        have h4 := h.le
        have h5 : (dropI w i x).log.length ≤ x.log.length + x.asked.length := by
          show (x.log ++ _).length ≤ _
          rw [List.length_append, List.length_map]
          have h6 := List.length_filter_le (fun p : Nat × List Nat => !decide (some (fold p.2) = w)) (x.asked.take i)
          rw [List.length_take] at h6
          omega
        rw [List.length_map]
        omega
      refine m_append h2.lg hlen ?_
      have e3 : (outA p.1 (dropI w i x)).log.map lgD ++ [D.tup [.str [111, 102, 102], .int (p.1 : Int)]] = ((dropI w i x).log ++ [Lg.off p.1]).map lgD := by
        rw [List.map_append]
        rfl
      have h3 := h2.setL ((dropI w i x).log ++ [Lg.off p.1])
      have g3 : Go M2 (upM M2 A.lg (.lst (((dropI w i x).log ++ [Lg.off p.1]).map lgD))) A A := Go.up (fp_lg A)
      rw [e3]
      refine ⟨_, rfl, ?_, (go.trans g2).trans g3⟩
      rw [dropI_off h.ok.an hp e]
      exact h3
    · have e : some (fold p.2) = w := by simpa using e
      walk_at "d"
      refine ⟨?_, go⟩
      rw [dropI_keep hp e]
      exact h1
  · rintro ρ' M' ⟨y, rfl, h1, go⟩
    rw [List.length_map, kvA_len, dropI_end] at h1
    exact q M' h1 go
theorem d_Asker_show {g : G} (fl : FlK g) : Keeps 2 nm_Asker_show (t_Asker_show g) (ds_Asker_show g) := by
  rintro W xs M Q E - ⟨A, R, ss, x, k, rows, rfl, h, hr, q⟩
  show lS W (t_Asker_show g W) [some (.ref A.a), some (.lst (rows.map D.str))] M _ _
  unfold t_Asker_show
  have hl := okT_len h.ok.now
  refine s_seq (s_ak fl 14 rfl rfl ?_)
  walk_at "d"
  refine l_ak fl 8 rfl rfl h.as rfl ?_
  walk_at "d"
  refine ⟨by omega, fun _ => ?_, fun z => no20 h.ok.now z⟩
  walk_at "d"
  refine ⟨A, R, ss, x, { x with shown := some ⟨fold x.now, rows, false⟩ }, rfl, h.as, rfl, ⟨rfl, rfl, rfl, rfl, rfl, rfl⟩, fun M2 h2 g2 => ?_⟩
  refine s_seq (s_ak fl 10 rfl rfl ?_)
  walk_at "d"
  refine ⟨A, R, ss, _, { x with shown := some ⟨fold x.now, rows, false⟩, due := false }, rfl, h2, rfl, ⟨rfl, rfl, rfl, rfl, rfl, rfl⟩, fun M3 h3 g3 => ?_⟩
  have ok3 : AsOk R k { x with shown := some ⟨fold x.now, rows, false⟩, due := false } := h.ok.own _ ⟨rfl, rfl, rfl, rfl, rfl, rfl⟩ h.ok.now fun s e => by
    obtain rfl := Option.some.inj e
    exact ⟨hr, fold_ok h.ok.now⟩
  walk_at "d"
  refine l_akM (by decide) rfl h3 ?_
  walk_at "d"
  refine ⟨A, R, ss, _, k, none, rfl, ⟨h3, ok3, h.ru, h.rs, h.le⟩, fun t e => (nomatch e), fun M4 h4 g4 => ?_⟩
  exact q M4 h4 ((g2.trans g3).trans g4)
theorem d_Asker_look_near {g : G} (fl : FlK g) : Keeps 1 nm_Asker_look_near (t_Asker_look_near g) (ds_Asker_look_near g) := by
  rintro W xs M Q E - ⟨A, R, ss, x, k, rfl, h, q⟩
  show lS W (t_Asker_look_near g W) [some (.ref A.a), none, none] M _ _
  unfold t_Asker_look_near
  have hl := okT_len h.ok.now
  have hR := h.ru
  unfold lookA at q
  walk_at "d"
  refine l_ak fl 8 rfl rfl h.as rfl ?_
  walk_at "d"
  refine ⟨by omega, fun _ => ?_, fun z => no20 h.ok.now z⟩
  walk_at "d"
  refine ⟨fun e => ?_, fun e => ?_⟩
  · rw [if_pos (of_decide_eq_true e)] at q
    refine s_seq (s_ak fl 10 rfl rfl ?_)
    walk_at "d"
    refine ⟨A, R, ss, x, { x with due := false }, rfl, h.as, rfl, ⟨rfl, rfl, rfl, rfl, rfl, rfl⟩, fun M2 h2 g2 => ?_⟩
    refine s_seq (s_ak fl 14 rfl rfl ?_)
    walk_at "d"
    refine ⟨A, R, ss, _, { x with due := false, shown := none }, rfl, h2, rfl, ⟨rfl, rfl, rfl, rfl, rfl, rfl⟩, fun M3 h3 g3 => ?_⟩
    walk_at "d"
    exact q M3 h3 (g2.trans g3)
  rw [if_neg (of_decide_eq_false e)] at q
  walk_at "d"
  refine l_meth (l_ak fl 2 rfl rfl h.as rfl ⟨A.sh, shNs, _, rfl, h.as.sh, by decide, ?_⟩)
  walk_at "d"
  refine l_ak fl 8 rfl rfl h.as rfl ?_
  walk_at "d"
  refine l_ak fl 3 rfl rfl h.as rfl ?_
  walk_at "d"
  refine l_ak fl 7 rfl rfl h.as rfl ?_
  walk_at "d"
  refine ⟨A.sh, R.most, R.term, x.ks, x.now, R.many, x.time, rfl, h.as.sh, h.ok.now, by have := h.ok.kl; omega, h.ok.ko, fun hs => ?_, fun e he => ?_⟩
  · rw [hs] at q
    walk_at "d"
    refine br_nf' ?_
    walk_at "d"
    cases hsh : x.shown with
    | none =>
      have hd : (akD A R x)[14]? = some .non := by show some (swD x.shown) = _; rw [hsh]; rfl
      rw [hsh] at q
      refine l_ak fl 14 rfl rfl h.as hd ?_
      walk_at "d"
      refine br_nf' ?_
      walk_at "d"
      exact q M h.as (Go.refl M A)
    | some s =>
      have hd : (akD A R x)[14]? = some (swD (some s)) := by rw [← hsh]; rfl
      rw [hsh] at q
      have hso := h.ok.so s hsh
      refine l_ak fl 14 rfl rfl h.as hd ?_
      unfold swD
      walk_at "d"
      refine br_nt' ?_
      walk_at "d"
      refine l_akM (by decide) rfl h.as ?_
      walk_at "d"
      refine ⟨A, R, ss, x, k, s, rfl, h.as, h.ok, hsh, ?_⟩
      refine ⟨_, rfl, ?_⟩
      cases hf : freshA x s with
      | true =>
        have q : ∀ M', IsAs g M' A R ss (if freshA x s = true then x else lessA R x s) → Go M M' A A → Q .non M' := q
        rw [if_pos hf] at q
        walk_at "d"
        exact q M h.as (Go.refl M A)
      | false =>
        have q : ∀ M', IsAs g M' A R ss (if freshA x s = true then x else lessA R x s) → Go M M' A A → Q .non M' := q
        rw [if_neg (by rw [hf]; exact Bool.false_ne_true)] at q
        walk_at "d"
        refine l_ak fl 14 rfl rfl h.as hd ?_
        walk_at "d"
        refine r_ix (ds := [.str s.key, .lst (s.rows.map D.str), .bl s.less]) (.inr rfl) rfl ?_
        walk_at "d"
        refine l_ak fl 8 rfl rfl h.as rfl ?_
        walk_at "d"
        refine l_ak fl 3 rfl rfl h.as rfl ?_
        walk_at "d"
        refine ⟨_, s.rows, x.now, R.many, rfl, isL_lst, hso.1, h.ok.now, ?_⟩
        unfold lessA at q
        walk_at "d"
        refine s_ak fl 14 rfl rfl ?_
        walk_at "d"
        refine ⟨_, tru_list isL_lst, ?_⟩
        rw [isEmpty_map]
        cases hb : bestF s.rows x.now R.many with
        | nil =>
          rw [hb, if_pos rfl] at q
          refine br_f ?_
          walk_at "d"
          refine ⟨A, R, ss, x, { x with shown := none }, rfl, h.as, rfl, ⟨rfl, rfl, rfl, rfl, rfl, rfl⟩, fun M2 h2 g2 => ?_⟩
          exact q M2 h2 g2
        | cons r rs =>
          rw [hb, if_neg (fun z => nomatch z)] at q
          refine br_t ?_
          walk_at "d"
          refine l_ak fl 14 rfl rfl h.as hd ?_
          walk_at "d"
          refine r_ix (ds := [.str s.key, .lst (s.rows.map D.str), .bl s.less]) (.inr rfl) rfl ?_
          walk_at "d"
          refine ⟨A, R, ss, x, { x with shown := some ⟨s.key, r :: rs, true⟩ }, rfl, h.as, rfl, ⟨rfl, rfl, rfl, rfl, rfl, rfl⟩, fun M2 h2 g2 => ?_⟩
          exact q M2 h2 g2
  · rw [he] at q
    have hm := (src_mem he).1
    walk_at "d"
    refine br_nt' ?_
    have h2 := h.as.setK (useK x.ks e)
    have g2 : Go M (upM M A.sh (shC g R.most R.term (useK x.ks e))) A A := Go.up (fp_sh A)
    have ok2 := h.ok.used hm
    generalize upM M A.sh (shC g R.most R.term (useK x.ks e)) = M2 at h2 g2
    walk_at "d"
    refine l_akM (by decide) rfl h2 ?_
    walk_at "d"
    refine ⟨A, R, ss, _, k, bestF e.rows x.now R.many, rfl, ⟨h2, ok2, hR, h.rs, h.le⟩, best_ok (h.ok.ko e hm).2, fun M3 h3 g3 => ?_⟩
    exact q M3 h3 (g2.trans g3)
abbrev nm_Asker_try_again : List Str := ["self", "number"]
def t_Asker_try_again (g : G) (W : WX) : TS := (tFor (iList g.K (tCB (rSortK) (tCons (tKeysA (tFld g.K (tVar 0) "flying")) tNil))) (gName 1) (tIfS (tTest (tOp (rGeA) (tOp (rSubA) (tFld g.K (tVar 0) "time") (tDGet (tFld g.K (tVar 0) "flying") (tVar 1))) (tFld g.K (tVar 0) "patience"))) (tSeq (tDrop (tDPop1 (tFld g.K (tVar 0) "flying") (tVar 1))) (tIfS (tB (tDIn (tVar 1) (tFld g.K (tVar 0) "asked"))) (tSeq (tDrop (tDPop1 (tFld g.K (tVar 0) "asked") (tVar 1))) (tSeq (tDrop (tBM g.K "list" (rAppend) (tFld g.K (tVar 0) "rows") (tCons (tTup (tCons (tC (.str (S [108, 111, 115, 116]))) (tCons (tVar 1) tNil))) tNil))) (sFld g.K (tVar 0) (tOp (rLtA) (tFld g.K (tVar 0) "tries") (tC (.int 3))) "is_due"))) tNext)) tNext))
abbrev nm_Asker_ask_if_due : List Str := ["self", "is_time", "number"]
def t_Asker_ask_if_due (g : G) (W : WX) : TS := (tSeq (tAsg (tOp (rGeA) (tOp (rSubA) (tFld g.K (tVar 0) "time") (tFld g.K (tVar 0) "typed_at")) (tFld g.K (tVar 0) "pause")) (gName 1)) (tIfS (tAnd (tB (tFld g.K (tVar 0) "is_due")) (tAnd (tB (tVar 1)) (tTest (tOp (rLtA) (tCB (rLenA g.K) (tCons (tFld g.K (tVar 0) "flying") tNil)) (tFld g.K (tVar 0) "asks_most"))))) (tSeq (sFld g.K (tVar 0) (tC (.bl false)) "is_due") (tSeq (sFld g.K (tVar 0) (tOp (rAddA g.K) (tFld g.K (tVar 0) "tries") (tC (.int 1))) "tries") (tSeq (tAsg (tMethS g.cR "send" (sp_Road_send g) (WE W) (tFld g.K (tVar 0) "road") (tCons (tFld g.K (tVar 0) "now") (tCons (tFld g.K (tVar 0) "time") tNil))) (gName 2)) (tSeq (tDPut (tFld g.K (tVar 0) "asked") (tVar 2) (tFld g.K (tVar 0) "now")) (tSeq (tDPut (tFld g.K (tVar 0) "flying") (tVar 2) (tFld g.K (tVar 0) "time")) (tDrop (tBM g.K "list" (rAppend) (tFld g.K (tVar 0) "rows") (tCons (tTup (tCons (tC (.str (S [97, 115, 107, 101, 100]))) (tCons (tVar 2) (tCons (tCallS (sp_folded g) (WE W) (tCons (tFld g.K (tVar 0) "now") tNil)) tNil)))) tNil)))))))) tNext))


theorem sortedInts {ks : List Nat} (h : ks.Pairwise (· < ·)) : (ks.map fun (n : Nat) => (n : Int)).mergeSort (PySem.W.dataLe false PyData.int) = ks.map fun (n : Nat) => (n : Int) := by
  refine List.mergeSort_of_pairwise ?_
  rw [List.pairwise_map]
  refine h.imp fun {a b} hab => ?_
  have e : lexLt itemOrd [.inl (b : Int)] [.inl (a : Int)] = false := lex_false.mpr ⟨decide_eq_false (show ¬ ((b : Int) < (a : Int)) by omega), .inl (decide_eq_true (show ((a : Int) < (b : Int)) by omega))⟩
  show (!lexLt itemOrd [.inl (b : Int)] [.inl (a : Int)]) = true
  rw [e]
  rfl
/-! asks that took too long -/
theorem lost_other {R : Ru} {x : As} {m n : Nat} (h : n ≠ m) : (lostA R x m).flying.find? (fun p => decide (p.1 = n)) = x.flying.find? fun p => decide (p.1 = n) := by
  have key : (downA m x).flying.find? (fun p => decide (p.1 = n)) = x.flying.find? fun p => decide (p.1 = n) := by
    unfold downA
    show (x.flying.filter _).find? _ = _
    rw [List.find?_filter]
    congr 1
    funext p
    by_cases z : p.1 = n
    · have : p.1 ≠ m := fun y => h (z.symm.trans y)
      simp [z, h]
    · simp [z]
  unfold lostA
  split
  · rfl
  · split
    · split
      · exact key
      · exact key
    · rfl
theorem losts_other {R : Ru} {n : Nat} : ∀ (ms : List Nat) {x : As}, n ∉ ms → (ms.foldl (lostA R) x).flying.find? (fun p => decide (p.1 = n)) = x.flying.find? fun p => decide (p.1 = n)
  | [], _, _ => rfl
  | m :: ms, x, h => by
    rw [List.foldl_cons, losts_other ms (fun z => h (List.mem_cons_of_mem _ z)), lost_other (fun z => h (by rw [z]; exact List.mem_cons_self))]
theorem find_at {l : List (Nat × Int)} {p : Nat × Int} (hn : (l.map (·.1)).Nodup) (hp : p ∈ l) : l.find? (fun q => decide (q.1 = p.1)) = some p := by
  induction l with
  | nil => cases hp
  | cons a l ih =>
    have h1 := List.nodup_cons.mp (show (a.1 :: l.map (·.1)).Nodup from hn)
    rw [List.find?_cons]
    by_cases z : a.1 = p.1
    · have e : a = p := by
        rcases List.mem_cons.mp hp with e | e
        · exact e.symm
        · exact absurd (List.mem_map.mpr ⟨p, e, z.symm⟩) h1.1
      subst e
      simp
    · have hp' : p ∈ l := (List.mem_cons.mp hp).resolve_left fun e => z (by rw [e])
      simp only [decide_eq_false z]
      exact ih h1.2 hp'
theorem lost_sent {R : Ru} {x : As} {n : Nat} : (lostA R x n).sent = x.sent ∧ (lostA R x n).log.length ≤ x.log.length + 1 := by
  unfold lostA
  split
  · exact ⟨rfl, by omega⟩
  · split
    · split
      · refine ⟨rfl, ?_⟩
        show (x.log ++ [_]).length ≤ _
        simp
      · exact ⟨rfl, by show x.log.length ≤ _; omega⟩
    · exact ⟨rfl, by omega⟩
theorem losts_sent {R : Ru} : ∀ (ns : List Nat) {x : As}, (ns.foldl (lostA R) x).sent = x.sent
  | [], _ => rfl
  | n :: ns, x => by rw [List.foldl_cons, losts_sent ns, lost_sent.1]
theorem pw_nodup {l : List Nat} (h : l.Pairwise (· < ·)) : l.Nodup := h.imp fun {a b} hab => by omega
theorem d_Asker_try_again {g : G} (fl : FlK g) : Keeps 1 nm_Asker_try_again (t_Asker_try_again g) (ds_Asker_try_again g) := by
  rintro W xs M Q E - ⟨A, R, ss, x, k, rfl, h, q⟩
  show lS W (t_Asker_try_again g W) [some (.ref A.a), none] M _ _
  unfold t_Asker_try_again
  have hks : (kvF x).map (fun kv => keyD kv.1) = ((x.flying.map (·.1)).map fun (n : Nat) => (n : Int)).map D.int := by
    unfold kvF
    rw [List.map_map, List.map_map, List.map_map]
    rfl
  have hnd := pw_nodup h.ok.fn
  refine s_for (i_list (l_sortKeys (l_ak fl 13 rfl rfl h.as rfl ⟨A.dF, kvF x, (x.flying.map (·.1)).map fun (n : Nat) => (n : Int), rfl, h.as.df, hks, _, isL_lst, ?_⟩)))
  rw [sortedInts h.ok.fn]
  refine ⟨fun i ρ M' => ∃ y, ρ = [some (.ref A.a), y] ∧ IsAs g M' A R ss (((x.flying.map (·.1)).take i).foldl (lostA R) x) ∧ Go M M' A A, ⟨none, rfl, h.as, Go.refl M A⟩, fun _ _ _ _ => isL_lst, ?_, ?_⟩
  · rintro i ρ' M' d hd ⟨y, rfl, h1, go⟩
    obtain ⟨p, hp, rfl⟩ : ∃ p, x.flying[i]? = some p ∧ d = .int (p.1 : Int) := by
      rw [List.map_map, List.map_map, List.getElem?_map] at hd
      cases e : x.flying[i]? with
      | none => rw [e] at hd; cases hd
      | some p => rw [e] at hd; exact ⟨p, rfl, (Option.some.inj hd).symm⟩
    have hp1 : (x.flying.map (·.1))[i]? = some p.1 := by rw [List.getElem?_map, hp]; rfl
    have et : ((x.flying.map (·.1)).take (i + 1)).foldl (lostA R) x = lostA R (((x.flying.map (·.1)).take i).foldl (lostA R) x) p.1 := by
      rw [take_succ_get hp1, List.foldl_append]
      rfl
    have hnot : p.1 ∉ (x.flying.map (·.1)).take i := fun z => by
      obtain ⟨j, hj⟩ := List.getElem?_of_mem z
      have hji : j < i := by
        have := (List.getElem?_eq_some_iff.mp hj).1
        rw [List.length_take] at this
        omega
      rw [List.getElem?_take_of_lt hji] at hj
      obtain ⟨a1, a2⟩ := List.getElem?_eq_some_iff.mp hj
      obtain ⟨b1, b2⟩ := List.getElem?_eq_some_iff.mp hp1
      have := (List.pairwise_iff_getElem.mp h.ok.fn) j i a1 b1 hji
      omega
    have hfind : (((x.flying.map (·.1)).take i).foldl (lostA R) x).flying.find? (fun q => decide (q.1 = p.1)) = some p := by
      rw [losts_other _ hnot, find_at hnd (List.mem_of_getElem? hp)]
    have ok1 := h.ok.losts ((x.flying.map (·.1)).take i)
    have le1 : (((x.flying.map (·.1)).take i).foldl (lostA R) x).sent ≤ 3300 := by rw [losts_sent]; exact h.le
    have fin : ∀ M2, IsAs g M2 A R ss (lostA R (((x.flying.map (·.1)).take i).foldl (lostA R) x) p.1) → Go M M2 A A → IsAs g M2 A R ss (((x.flying.map (·.1)).take (i + 1)).foldl (lostA R) x) ∧ Go M M2 A A := fun M2 h2 g2 => ⟨by rw [et]; exact h2, g2⟩
    clear et
    generalize ((x.flying.map (·.1)).take i).foldl (lostA R) x = x1 at h1 hfind ok1 le1 fin
    have hval : valD (kvF x1) (.inl (p.1 : Int)) = some (.int p.2) := by
      unfold kvF
      rw [valD_flying, hfind]
      rfl
    have el : lostA R x1 p.1 = if R.pat ≤ x1.time - p.2 then (if isIn p.1 x1 = true then { outA p.1 (downA p.1 x1) with log := x1.log ++ [.lost p.1], due := decide (x1.tries < 3) } else downA p.1 x1) else x1 := by
      unfold lostA
      rw [hfind]
    rw [el] at fin
    walk_at "d"
    refine l_ak fl 7 rfl rfl h1 rfl ?_
    walk_at "d"
    refine l_dget (l_ak fl 13 rfl rfl h1 rfl ?_)
    walk_at "d"
    refine ⟨A.dF, _, .inl (p.1 : Int), _, rfl, h1.df, rfl, hval, ?_⟩
    walk_at "d"
    refine l_ak fl 6 rfl rfl h1 rfl ?_
    walk_at "d"
    refine ⟨fun e => ?_, fun e => ?_⟩
    · rw [if_pos (of_decide_eq_true e)] at fin
      walk_at "d"
      refine l_dpop1 (l_ak fl 13 rfl rfl h1 rfl ⟨A.dF, _, rfl, h1.df, ?_⟩)
      walk_at "d"
      refine ⟨_, .inl (p.1 : Int), _, h1.df, rfl, hval, ?_⟩
      rw [kvF_drop]
      have h2 : IsAs g (upM M' A.dF (.dic (kvF (downA p.1 x1)))) A R ss (downA p.1 x1) := h1.setF (downA p.1 x1).flying
      have g2 : Go M' (upM M' A.dF (.dic (kvF (downA p.1 x1)))) A A := Go.up (fp_dF A)
      generalize upM M' A.dF (.dic (kvF (downA p.1 x1))) = M2 at h2 g2
      walk_at "d"
      refine l_din ?_
      walk_at "d"
      refine l_ak fl 12 rfl rfl h2 rfl ?_
      refine ⟨A.dA, _, .inl (p.1 : Int), rfl, h2.da, rfl, ?_⟩
      rw [any_asked]
      have ei : isIn p.1 (downA p.1 x1) = isIn p.1 x1 := rfl
      rw [ei]
      refine ⟨_, rfl, fun e2 => ?_, fun e2 => ?_⟩
      · rw [if_pos e2] at fin
        have hv2 : ∃ d, valD (kvA (downA p.1 x1)) (.inl (p.1 : Int)) = some d := by
          have := any_asked (downA p.1 x1) p.1
          rw [ei, e2] at this
          exact Option.isSome_iff_exists.mp this
        obtain ⟨d2, hv2⟩ := hv2
        walk_at "d"
        refine l_dpop1 (l_ak fl 12 rfl rfl h2 rfl ⟨A.dA, _, rfl, h2.da, ?_⟩)
        walk_at "d"
        refine ⟨_, .inl (p.1 : Int), _, h2.da, rfl, hv2, ?_⟩
        rw [kvA_drop]
        have h3 : IsAs g (upM M2 A.dA (.dic (kvA (outA p.1 (downA p.1 x1))))) A R ss (outA p.1 (downA p.1 x1)) := h2.setA (outA p.1 (downA p.1 x1)).asked
        have g3 : Go M2 (upM M2 A.dA (.dic (kvA (outA p.1 (downA p.1 x1))))) A A := Go.up (fp_dA A)
        generalize upM M2 A.dA (.dic (kvA (outA p.1 (downA p.1 x1)))) = M3 at h3 g3
        walk_at "d"
        refine l_bmL (l_ak fl 15 rfl rfl h3 rfl ⟨⟨_, isL_ref h3.lg⟩, ?_⟩)
        walk_at "d"
        refine m_append h3.lg (by rw [List.length_map]; have := ok1.sz; show x1.log.length ≤ 100000; omega) ?_
        have e4 : (outA p.1 (downA p.1 x1)).log.map lgD ++ [D.tup [.str [108, 111, 115, 116], .int (p.1 : Int)]] = (x1.log ++ [Lg.lost p.1]).map lgD := by
          rw [List.map_append]
          rfl
        have h4 := h3.setL (x1.log ++ [Lg.lost p.1])
        have g4 : Go M3 (upM M3 A.lg (.lst ((x1.log ++ [Lg.lost p.1]).map lgD))) A A := Go.up (fp_lg A)
        rw [e4]
        generalize upM M3 A.lg (.lst ((x1.log ++ [Lg.lost p.1]).map lgD)) = M4 at h4 g4
        walk_at "d"
        refine s_ak fl 10 rfl rfl ?_
        walk_at "d"
        refine l_ak fl 11 rfl rfl h4 rfl ?_
        walk_at "d"
        have et3 : decide ((x1.tries : Int) < 3) = decide (x1.tries < 3) := by
          by_cases z : x1.tries < 3
          · rw [decide_eq_true z, decide_eq_true (by omega)]
          · rw [decide_eq_false z, decide_eq_false (by omega)]
        refine ⟨A, R, ss, _, { outA p.1 (downA p.1 x1) with log := x1.log ++ [.lost p.1], due := decide (x1.tries < 3) }, rfl, h4, ?_, ⟨rfl, rfl, rfl, rfl, rfl, rfl⟩, fun M5 h5 g5 => ?_⟩
        · rw [← et3]
          rfl
        · exact ⟨_, rfl, fin M5 h5 ((((go.trans g2).trans g3).trans g4).trans g5)⟩
      · rw [if_neg (by rw [e2]; exact Bool.false_ne_true)] at fin
        walk_at "d"
        exact fin M2 h2 (go.trans g2)
    · rw [if_neg (of_decide_eq_false e)] at fin
      walk_at "d"
      exact fin M' h1 go
  · rintro ρ' M' ⟨y, rfl, h1, go⟩
    rw [List.length_map, List.length_map, List.take_length] at h1
    exact q M' h1 go
theorem goA_eq (R : Ru) (x : As) : goA R x = (x.due && (decide (x.time - x.typed ≥ R.pause) && decide ((x.flying.length : Int) < R.asks))) := rfl
theorem d_Asker_ask_if_due {g : G} (fl : FlK g) : Keeps 1 nm_Asker_ask_if_due (t_Asker_ask_if_due g) (ds_Asker_ask_if_due g) := by
  rintro W xs M Q E - ⟨A, R, ss, x, k, rfl, h, q⟩
  show lS W (t_Asker_ask_if_due g W) [some (.ref A.a), none, none] M _ _
  unfold t_Asker_ask_if_due
  have hl := okT_len h.ok.now
  have hR := h.ru
  have hle := h.le
  have hsz := h.ok.sz
  have hfl := h.ok.fl
  unfold askA goA at q
  walk_at "d"
  refine l_ak fl 7 rfl rfl h.as rfl ?_
  walk_at "d"
  refine l_ak fl 9 rfl rfl h.as rfl ?_
  walk_at "d"
  refine l_ak fl 4 rfl rfl h.as rfl ?_
  walk_at "d"
  refine l_ak fl 10 rfl rfl h.as rfl ?_
  refine ⟨_, rfl, fun e1 => ?_, fun e1 => ?_⟩
  · rw [e1, Bool.true_and] at q
    walk_at "d"
    refine ⟨fun e2 => ?_, fun e2 => ?_⟩
    · rw [e2, Bool.true_and] at q
      walk_at "d"
      refine l_ak fl 13 rfl rfl h.as rfl ?_
      refine a_nil (c_lenD h.as.df ?_)
      rw [kvF_len]
      walk_at "d"
      refine l_ak fl 5 rfl rfl h.as rfl ?_
      walk_at "d"
      refine ⟨fun e3 => ?_, fun e3 => ?_⟩
      · rw [e3, if_pos rfl] at q
        refine s_seq (s_ak fl 10 rfl rfl ?_)
        walk_at "d"
        refine ⟨A, R, ss, x, { x with due := false }, rfl, h.as, rfl, ⟨rfl, rfl, rfl, rfl, rfl, rfl⟩, fun M2 h2 g2 => ?_⟩
        refine s_seq (s_ak fl 11 rfl rfl ?_)
        walk_at "d"
        refine l_ak fl 11 rfl rfl h2 rfl ?_
        walk_at "d"
        refine ⟨A, R, ss, _, { x with due := false, tries := x.tries + 1 }, rfl, h2, rfl, ⟨rfl, rfl, rfl, rfl, rfl, rfl⟩, fun M3 h3 g3 => ?_⟩
        walk_at "d"
        refine l_meth (l_ak fl 1 rfl rfl h3 rfl ⟨A.rd, rdNs, _, rfl, h3.rd.ob, by decide, ?_⟩)
        walk_at "d"
        refine l_ak fl 8 rfl rfl h3 rfl ?_
        walk_at "d"
        refine l_ak fl 7 rfl rfl h3 rfl ?_
        walk_at "d"
        refine ⟨A.rd, A.u, R.dl, x.sent, x.ws, x.now, x.time, rfl, h3.rd, hR.d0, by omega, hR.dn, ?_⟩
        have h4 := h3.setR (v := A.u) (M2 := upM (upM M3 A.rd (rdC g R.dl (x.sent + 1) A.u)) A.u (.lst ((sendW R.dl x.sent x.ws x.now x.time).map flD))) (x.sent + 1) (sendW R.dl x.sent x.ws x.now x.time) (.inl rfl) (by rw [upM_ne h3.rd.ne, upM_same]) upM_same (fun b c hb n1 n2 => by rw [upM_ne n2, upM_ne n1]; exact hb)
        have g4 : Go M3 (upM (upM M3 A.rd (rdC g R.dl (x.sent + 1) A.u)) A.u (.lst ((sendW R.dl x.sent x.ws x.now x.time).map flD))) A A := (Go.up (fp_rd A)).trans (Go.up (u_fp A))
        have h4 : IsAs g (upM (upM M3 A.rd (rdC g R.dl (x.sent + 1) A.u)) A.u (.lst ((sendW R.dl x.sent x.ws x.now x.time).map flD))) A R ss { x with due := false, tries := x.tries + 1, sent := x.sent + 1, ws := sendW R.dl x.sent x.ws x.now x.time } := h4
        generalize upM (upM M3 A.rd (rdC g R.dl (x.sent + 1) A.u)) A.u (.lst ((sendW R.dl x.sent x.ws x.now x.time).map flD)) = M4 at h4 g4
        walk_at "d"
        refine s_dput (l_ak fl 8 rfl rfl h4 rfl ?_)
        refine l_ak fl 12 rfl rfl h4 rfl ?_
        walk_at "d"
        refine ⟨A.dA, _, .inl ((x.sent + 1 : Nat) : Int), rfl, h4.da, rfl, by rw [kvA_len]; show x.asked.length < 100000; omega, ?_⟩
        have ea : putD (kvA { x with due := false, tries := x.tries + 1, sent := x.sent + 1, ws := sendW R.dl x.sent x.ws x.now x.time }) (.inl ((x.sent + 1 : Nat) : Int)) (.str x.now) = kvA { x with due := false, tries := x.tries + 1, sent := x.sent + 1, ws := sendW R.dl x.sent x.ws x.now x.time, asked := x.asked ++ [(x.sent + 1, x.now)] } := by
          rw [putD_new]
          · unfold kvA
            rw [List.map_append]
            rfl
          · intro p hp
            obtain ⟨a, ha, rfl⟩ := List.mem_map.mp hp
            have := (h.ok.ak a ha).2
            exact fun z => by injection z with z; omega
        rw [ea]
        have h5 := h4.setA (x.asked ++ [(x.sent + 1, x.now)])
        have g5 : Go M4 (upM M4 A.dA (.dic (kvA { x with due := false, tries := x.tries + 1, sent := x.sent + 1, ws := sendW R.dl x.sent x.ws x.now x.time, asked := x.asked ++ [(x.sent + 1, x.now)] }))) A A := Go.up (fp_dA A)
        generalize upM M4 A.dA (.dic (kvA { x with due := false, tries := x.tries + 1, sent := x.sent + 1, ws := sendW R.dl x.sent x.ws x.now x.time, asked := x.asked ++ [(x.sent + 1, x.now)] })) = M5 at h5 g5
        refine s_seq (s_dput (l_ak fl 7 rfl rfl h5 rfl ?_))
        refine l_ak fl 13 rfl rfl h5 rfl ?_
        walk_at "d"
        refine ⟨A.dF, _, .inl ((x.sent + 1 : Nat) : Int), rfl, h5.df, rfl, by rw [kvF_len]; show x.flying.length < 100000; omega, ?_⟩
        have ef : putD (kvF { x with due := false, tries := x.tries + 1, sent := x.sent + 1, ws := sendW R.dl x.sent x.ws x.now x.time, asked := x.asked ++ [(x.sent + 1, x.now)] }) (.inl ((x.sent + 1 : Nat) : Int)) (.int x.time) = kvF { x with due := false, tries := x.tries + 1, sent := x.sent + 1, ws := sendW R.dl x.sent x.ws x.now x.time, asked := x.asked ++ [(x.sent + 1, x.now)], flying := x.flying ++ [(x.sent + 1, x.time)] } := by
          rw [putD_new]
          · unfold kvF
            rw [List.map_append]
            rfl
          · intro p hp
            obtain ⟨a, ha, rfl⟩ := List.mem_map.mp hp
            have := h.ok.fs a ha
            exact fun z => by injection z with z; omega
        rw [ef]
        have h6 := h5.setF (x.flying ++ [(x.sent + 1, x.time)])
        have g6 : Go M5 (upM M5 A.dF (.dic (kvF { x with due := false, tries := x.tries + 1, sent := x.sent + 1, ws := sendW R.dl x.sent x.ws x.now x.time, asked := x.asked ++ [(x.sent + 1, x.now)], flying := x.flying ++ [(x.sent + 1, x.time)] }))) A A := Go.up (fp_dF A)
        generalize upM M5 A.dF (.dic (kvF { x with due := false, tries := x.tries + 1, sent := x.sent + 1, ws := sendW R.dl x.sent x.ws x.now x.time, asked := x.asked ++ [(x.sent + 1, x.now)], flying := x.flying ++ [(x.sent + 1, x.time)] })) = M6 at h6 g6
        walk_at "d"
        refine l_bmL (l_ak fl 15 rfl rfl h6 rfl ⟨⟨_, isL_ref h6.lg⟩, ?_⟩)
        walk_at "d"
        refine l_ak fl 8 rfl rfl h6 rfl ?_
        walk_at "d"
        refine ⟨show x.now.length ≤ 1000 by omega, fun _ => ?_, fun z => no20 h.ok.now z⟩
        walk_at "d"
        refine m_append h6.lg (by rw [List.length_map]; show x.log.length ≤ 100000; omega) ?_
        have e7 : x.log.map lgD ++ [D.tup [.str [97, 115, 107, 101, 100], .int ((x.sent + 1 : Nat) : Int), .str (fold x.now)]] = (x.log ++ [Lg.asked (x.sent + 1) (fold x.now)]).map lgD := by
          rw [List.map_append]
          rfl
        have h7 := h6.setL (x.log ++ [Lg.asked (x.sent + 1) (fold x.now)])
        have g7 : Go M6 (upM M6 A.lg (.lst ((x.log ++ [Lg.asked (x.sent + 1) (fold x.now)]).map lgD))) A A := Go.up (fp_lg A)
        show Q .non (upM M6 A.lg (.lst (x.log.map lgD ++ [D.tup [.str [97, 115, 107, 101, 100], .int ((x.sent + 1 : Nat) : Int), .str (fold x.now)]])))
        rw [e7]
        exact q _ h7 ((((((g2.trans g3).trans g4).trans g5).trans g6)).trans g7)
      · rw [e3, if_neg Bool.false_ne_true] at q
        walk_at "d"
        exact q M h.as (Go.refl M A)
    · rw [e2, Bool.false_and, if_neg Bool.false_ne_true] at q
      walk_at "d"
      exact q M h.as (Go.refl M A)
  · rw [e1, Bool.false_and, if_neg Bool.false_ne_true] at q
    walk_at "d"
    exact q M h.as (Go.refl M A)
abbrev nm_Asker_step : List Str := ["self", "number", "query", "some", "is_all"]
def t_Asker_step (g : G) (W : WX) : TS := (tSeq (sFld g.K (tVar 0) (tOp (rAddA g.K) (tFld g.K (tVar 0) "time") (tC (.int 1))) "time") (tSeq (tFor (iList g.K (tMethS g.cR "due" (sp_Road_due g) (WE W) (tFld g.K (tVar 0) "road") (tCons (tFld g.K (tVar 0) "time") tNil))) (gTup g.K 2 (gCons (gName 1) (gCons (gName 2) gNil))) (tSeq (tAsg (tMethS g.cS "answer" (sp_Store_answer g) (WE W) (tFld g.K (tVar 0) "store") (tCons (tVar 2) (tCons (tFld g.K (tVar 0) "rows_most") tNil))) (gTup g.K 2 (gCons (gName 3) (gCons (gName 4) gNil)))) (tSeq (tDrop (tDPop2 (tFld g.K (tVar 0) "flying") (tVar 1) (tC .non))) (tSeq (tDrop (tMethS g.cH "put" (sp_Shelf_put g) (WE W) (tFld g.K (tVar 0) "shelf") (tCons (tVar 2) (tCons (tVar 3) (tCons (tVar 4) (tCons (tFld g.K (tVar 0) "time") tNil)))))) (tIfS (tB (tDIn (tVar 1) (tFld g.K (tVar 0) "asked"))) (tSeq (tDrop (tDPop1 (tFld g.K (tVar 0) "asked") (tVar 1))) (tSeq (tDrop (tBM g.K "list" (rAppend) (tFld g.K (tVar 0) "rows") (tCons (tTup (tCons (tC (.str (S [99, 97, 109, 101]))) (tCons (tVar 1) tNil))) tNil))) (tDrop (tMethS g.cK "show" (sp_Asker_show g) (WE W) (tVar 0) (tCons (tVar 3) tNil))))) (tSeq (tDrop (tBM g.K "list" (rAppend) (tFld g.K (tVar 0) "rows") (tCons (tTup (tCons (tC (.str (S [108, 97, 116, 101]))) (tCons (tVar 1) tNil))) tNil))) (tDrop (tMethS g.cK "look_near" (sp_Asker_look_near g) (WE W) (tVar 0) tNil)))))))) (tSeq (tDrop (tMethS g.cK "try_again" (sp_Asker_try_again g) (WE W) (tVar 0) tNil)) (tDrop (tMethS g.cK "ask_if_due" (sp_Asker_ask_if_due g) (WE W) (tVar 0) tNil)))))
abbrev nm_Asker_tick : List Str := ["self", "many", "k"]
def t_Asker_tick (g : G) (W : WX) : TS := (tSeq (tIfS (tNot (tTest (tChain (rLeA) (rLeA) (tC (.int 0)) (tVar 1) (tC (.int 100))))) (tRaiseC g.cN W) tNext) (tFor (iRng1 (tCons (tVar 1) tNil)) (gName 2) (tDrop (tMethS g.cK "step" (sp_Asker_step g) (WE W) (tVar 0) tNil))))


theorem dueL_ok {ws : List Fl} {t : Int} (h : ∀ f ∈ ws, okT 12 f.q = true) : ∀ f ∈ dueL ws t, okT 12 f.q = true := fun f hf => by
  unfold dueL sortF at hf
  exact h f (List.mem_filter.mp (List.mem_mergeSort.mp hf)).1
theorem due_len (ws : List Fl) (t : Int) : (dueL ws t).length + (ws.filter (stays t)).length = ws.length := by
  unfold dueL
  rw [sortF_len]
  have h := part_len (comes t) ws
  have e : (fun a => !comes t a) = stays t := by
    funext f
    unfold comes stays
    by_cases z : f.when ≤ t
    · rw [decide_eq_true z, decide_eq_false (by omega)]
      rfl
    · rw [decide_eq_false z, decide_eq_true (by omega)]
      rfl
  rw [e] at h
  exact h
/-- before the answers come -/
def wakeA (x : As) : As := { x with time := x.time + 1, ws := x.ws.filter (stays (x.time + 1)) }
theorem stepA_eq (R : Ru) (ss : List (List Nat)) (x : As) : stepA R ss x = askA R (tryA R ((dueL x.ws (x.time + 1)).foldl (arriveA R ss) (wakeA x))) := rfl
theorem AsOk.wake {R : Ru} {x : As} (h : AsOk R 0 x) : AsOk R (dueL x.ws (x.time + 1)).length (wakeA x) where
  now := h.now
  ak := h.ak
  an := h.an
  fn := h.fn
  fs := h.fs
  wq := fun f hf => h.wq f (List.mem_filter.mp hf).1
  ko := h.ko
  kl := h.kl
  so := h.so
  lo := h.lo
  sz := by
    have h1 := h.sz
    have h2 := due_len x.ws (x.time + 1)
    show x.log.length + x.asked.length + (x.ws.filter (stays (x.time + 1))).length + (dueL x.ws (x.time + 1)).length ≤ 3 * x.sent
    omega
  fl := h.fl
theorem AsOk.arrives {R : Ru} (hR : RuOk R) {ss : List (List Nat)} (hs : rowsOk ss) : ∀ (fs : List Fl) {k : Nat} {x : As}, (∀ f ∈ fs, okT 12 f.q = true) → AsOk R (fs.length + k) x → AsOk R k (fs.foldl (arriveA R ss) x)
  | [], k, x, _, h => by
    have : ([] : List Fl).length + k = k := Nat.zero_add k
    rw [this] at h
    exact h
  | f :: fs, k, x, hf, h => by
    rw [List.foldl_cons]
    refine AsOk.arrives hR hs fs (fun f m => hf f (List.mem_cons_of_mem _ m)) ?_
    refine AsOk.arrive ?_ hR hs (hf f List.mem_cons_self)
    rw [List.length_cons] at h
    exact h.mono (by omega)
theorem show_sent (rows : List (List Nat)) (x : As) : (showA rows x).sent = x.sent := rfl
theorem look_sent (R : Ru) (x : As) : (lookA R x).sent = x.sent := by
  unfold lookA
  split
  · rfl
  · split
    · rfl
    · split
      · rfl
      · split <;> rfl
theorem arrive_sent (R : Ru) (ss : List (List Nat)) (x : As) (f : Fl) : (arriveA R ss x f).sent = x.sent := by
  unfold arriveA
  split
  · rfl
  · exact look_sent _ _
theorem arrives_sent (R : Ru) (ss : List (List Nat)) : ∀ (fs : List Fl) (x : As), (fs.foldl (arriveA R ss) x).sent = x.sent
  | [], _ => rfl
  | f :: fs, x => by rw [List.foldl_cons, arrives_sent R ss fs, arrive_sent]
theorem ask_sent (R : Ru) (x : As) : (askA R x).sent ≤ x.sent + 1 := by
  unfold askA
  split
  · exact Nat.le_refl _
  · omega
theorem try_sent (R : Ru) (x : As) : (tryA R x).sent = x.sent := losts_sent _
theorem step_sent (R : Ru) (ss : List (List Nat)) (x : As) : (stepA R ss x).sent ≤ x.sent + 1 := by
  rw [stepA_eq]
  refine Nat.le_trans (ask_sent _ _) ?_
  rw [try_sent, arrives_sent]
  exact Nat.le_refl _
theorem AsOk.step {R : Ru} (hR : RuOk R) {ss : List (List Nat)} (hs : rowsOk ss) {x : As} (h : AsOk R 0 x) : AsOk R 0 (stepA R ss x) := by
  rw [stepA_eq]
  exact (AsOk.arrives hR hs _ (dueL_ok h.wq) h.wake).try.ask
theorem tick_sent (R : Ru) (ss : List (List Nat)) : ∀ (n : Nat) (x : As), (tickA R ss n x).sent ≤ x.sent + n
  | 0, _ => Nat.le_refl _
  | n + 1, x => by
    have h1 := tick_sent R ss n (stepA R ss x)
    have h2 := step_sent R ss x
    show (tickA R ss n (stepA R ss x)).sent ≤ _
    omega
theorem AsOk.tick {R : Ru} (hR : RuOk R) {ss : List (List Nat)} (hs : rowsOk ss) : ∀ (n : Nat) {x : As}, AsOk R 0 x → AsOk R 0 (tickA R ss n x)
  | 0, _, h => h
  | n + 1, _, h => AsOk.tick hR hs n (h.step hR hs)
theorem tick_snoc (R : Ru) (ss : List (List Nat)) : ∀ (n : Nat) (x : As), tickA R ss (n + 1) x = stepA R ss (tickA R ss n x)
  | 0, _ => rfl
  | n + 1, x => tick_snoc R ss n (stepA R ss x)
theorem arriveA_eq (R : Ru) (ss : List (List Nat)) (x : As) (f : Fl) : arriveA R ss x f =
    if isIn f.num x = true then showA (bestF ss f.q R.many) { outA f.num (downA f.num x) with ks := putK R.most x.ks ⟨fold f.q, bestF ss f.q R.many, decide ((allBest ss f.q).length ≤ R.many), x.time⟩, log := x.log ++ [.came f.num] }
    else lookA R { downA f.num x with ks := putK R.most x.ks ⟨fold f.q, bestF ss f.q R.many, decide ((allBest ss f.q).length ≤ R.many), x.time⟩, log := x.log ++ [.late f.num] } := rfl
theorem d_Asker_step {g : G} (fl : FlK g) : Keeps 1 nm_Asker_step (t_Asker_step g) (ds_Asker_step g) := by
  rintro W xs M Q E - ⟨A, R, ss, x, rfl, h, q⟩
  show lS W (t_Asker_step g W) [some (.ref A.a), none, none, none, none] M _ _
  unfold t_Asker_step
  have hR := h.ru
  have hm6 := hR.m6
  have hm1 := hR.m1
  have hle := h.le
  have hsz := h.ok.sz
  rw [stepA_eq] at q
  refine s_seq (s_ak fl 7 rfl rfl ?_)
  walk_at "d"
  refine l_ak fl 7 rfl rfl h.as rfl ?_
  walk_at "d"
  refine ⟨A, R, ss, x, { x with time := x.time + 1 }, rfl, h.as, rfl, ⟨rfl, rfl, rfl, rfl, rfl, rfl⟩, fun M1 h1 g1 => ?_⟩
  refine s_seq (s_for (i_list (l_meth (l_ak fl 1 rfl rfl h1 rfl ⟨A.rd, rdNs, _, rfl, h1.rd.ob, by decide, ?_⟩))))
  walk_at "d"
  refine l_ak fl 7 rfl rfl h1 rfl ?_
  walk_at "d"
  refine ⟨A.rd, A.u, R.dl, x.sent, x.ws, x.time + 1, rfl, h1.rd, by omega, fun v hv => ?_⟩
  have hvr := ne_cell h1.rd.ob hv
  have h2 := h1.setR (v := v) (M2 := upM (upM M1 v (.lst ((x.ws.filter (stays (x.time + 1))).map flD))) A.rd (rdC g R.dl x.sent v)) x.sent (x.ws.filter (stays (x.time + 1))) (.inr hv) upM_same (by rw [upM_ne hvr.symm, upM_same]) (fun b c hb n1 n2 => by rw [upM_ne n1, upM_ne (ne_cell hb hv)]; exact hb)
  have h2 : IsAs g (upM (upM M1 v (.lst ((x.ws.filter (stays (x.time + 1))).map flD))) A.rd (rdC g R.dl x.sent v)) { A with u := v } R ss (wakeA x) := h2
  have g2 : Go M1 (upM (upM M1 v (.lst ((x.ws.filter (stays (x.time + 1))).map flD))) A.rd (rdC g R.dl x.sent v)) A { A with u := v } := ⟨fun b c hb hn => by rw [upM_ne (fun z => hn (by rw [z]; exact fp_rd A)), upM_ne (ne_cell hb hv)]; exact hb, rfl, .inr hv, fun b hb => bk_up b (bk_up b hb)⟩
  have g2 := g1.trans g2
  generalize upM (upM M1 v (.lst ((x.ws.filter (stays (x.time + 1))).map flD))) A.rd (rdC g R.dl x.sent v) = M2 at h2 g2
  have ok2 := h.ok.wake
  have hdq := dueL_ok (t := x.time + 1) h.ok.wq
  have se2 : (wakeA x).sent = x.sent := rfl
  refine ⟨_, isL_lst, fun i ρ M' => ∃ (A' : Ad) (y1 y2 y3 y4 : Option D), ρ = [some (.ref A.a), y1, y2, y3, y4] ∧ A'.a = A.a ∧ IsAs g M' A' R ss (((dueL x.ws (x.time + 1)).take i).foldl (arriveA R ss) (wakeA x)) ∧ Go M M' A A', ⟨{ A with u := v }, none, none, none, none, rfl, rfl, h2, g2⟩, fun _ _ _ _ => isL_lst, ?_, ?_⟩
  · rintro i ρ' M' d hd ⟨A', y1, y2, y3, y4, rfl, ea, h3, g3⟩
    obtain ⟨f, hf, rfl⟩ : ∃ f, (dueL x.ws (x.time + 1))[i]? = some f ∧ d = nqD f := by
      rw [List.getElem?_map] at hd
      cases e : (dueL x.ws (x.time + 1))[i]? with
      | none => rw [e] at hd; cases hd
      | some f => rw [e] at hd; exact ⟨f, rfl, (Option.some.inj hd).symm⟩
    have hfq := hdq f (List.mem_of_getElem? hf)
    have hfl := okT_len hfq
    have hi := (List.getElem?_eq_some_iff.mp hf).1
    have et : ((dueL x.ws (x.time + 1)).take (i + 1)).foldl (arriveA R ss) (wakeA x) = arriveA R ss (((dueL x.ws (x.time + 1)).take i).foldl (arriveA R ss) (wakeA x)) f := by
      rw [take_succ_get hf, List.foldl_append]
      rfl
    have ok3 : AsOk R 1 (((dueL x.ws (x.time + 1)).take i).foldl (arriveA R ss) (wakeA x)) := AsOk.arrives hR h.rs _ (fun f m => hdq f (List.mem_of_mem_take m)) (ok2.mono (by rw [List.length_take]; omega))
    have se3 : (((dueL x.ws (x.time + 1)).take i).foldl (arriveA R ss) (wakeA x)).sent = x.sent := by rw [arrives_sent, se2]
    have fin : ∀ M4 y1 y2 y3 y4, IsAs g M4 A' R ss (arriveA R ss (((dueL x.ws (x.time + 1)).take i).foldl (arriveA R ss) (wakeA x)) f) → Go M' M4 A' A' → ∃ (A'' : Ad) (z1 z2 z3 z4 : Option D), [some (D.ref A'.a), y1, y2, y3, y4] = [some (.ref A'.a), z1, z2, z3, z4] ∧ A''.a = A'.a ∧ IsAs g M4 A'' R ss (((dueL x.ws (x.time + 1)).take (i + 1)).foldl (arriveA R ss) (wakeA x)) ∧ Go M M4 A A'' := fun M4 y1 y2 y3 y4 h4 g4 => ⟨A', y1, y2, y3, y4, rfl, rfl, by rw [et]; exact h4, g3.trans g4⟩
    clear et
    generalize ((dueL x.ws (x.time + 1)).take i).foldl (arriveA R ss) (wakeA x) = x3 at h3 ok3 se3 fin
    rw [arriveA_eq] at fin
    rw [← ea]
    have le3 : x3.sent ≤ 3300 := by omega
    have sz3 := ok3.sz
    have hans : ansF f.q (R.many : Int) = none := by
      unfold ansF
      rw [if_pos (by omega), if_pos hfq]
    unfold nqD
    walk_at "d"
    refine l_meth (l_ak fl 0 rfl rfl h3 rfl ⟨A'.st, _, _, rfl, h3.st.ob, by decide, ?_⟩)
    walk_at "d"
    refine l_ak fl 3 rfl rfl h3 rfl ?_
    walk_at "d"
    refine ⟨A'.st, A'.sr, ss, f.q, R.many, rfl, by omega, h.rs, h3.st, fun _ => ?_, fun w hw => absurd (hans.symm.trans hw) (by exact fun z => nomatch z)⟩
    unfold ansD
    rw [Int.toNat_natCast]
    have hk : keOk ⟨fold f.q, bestF ss f.q R.many, decide ((allBest ss f.q).length ≤ R.many), x3.time⟩ := ⟨by have := okT_len (fold_ok hfq); show (fold f.q).length ≤ 1000; omega, best_ok h.rs⟩
    have hbl : (bestF ss f.q R.many).length ≤ 1000 := (best_ok (n := R.many) (q := f.q) h.rs).2
    walk_at "d"
    refine lE_mono (Q := fun _ M4 => IsAs g M4 A' R ss (downA f.num x3) ∧ Go M' M4 A' A') (l_dpop2 (l_ak fl 13 rfl rfl h3 rfl ⟨A'.dF, _, rfl, h3.df, ?_⟩)) ?_
    · walk_at "d"
      refine ⟨_, .inl (f.num : Int), h3.df, rfl, fun d hv => ?_, fun hv => ?_⟩
      · rw [kvF_drop]
        exact ⟨h3.setF (downA f.num x3).flying, Go.up (fp_dF A')⟩
      · have e : (downA f.num x3).flying = x3.flying := by
          refine List.filter_eq_self.mpr fun p hp => decide_eq_true fun z => ?_
          unfold kvF at hv
          rw [valD_flying] at hv
          have h4 := List.find?_eq_none.mp (Option.map_eq_none_iff.mp hv) p hp
          exact h4 (decide_eq_true z)
        have e2 : downA f.num x3 = x3 := by
          show { x3 with flying := (downA f.num x3).flying } = x3
          rw [e]
        rw [e2]
        exact ⟨h3, Go.refl _ _⟩
    rintro - M4 ⟨h4, g4⟩
    walk_at "d"
    refine l_meth (l_ak fl 2 rfl rfl h4 rfl ⟨A'.sh, shNs, _, rfl, h4.sh, by decide, ?_⟩)
    walk_at "d"
    refine l_ak fl 7 rfl rfl h4 rfl ?_
    walk_at "d"
    refine ⟨A'.sh, R.most, R.term, x3.ks, f.q, _, bestF ss f.q R.many, _, x3.time, rfl, h4.sh, isL_lst, ok20 hfq, by have := ok3.kl; omega, ok3.ko, hbl, ?_⟩
    have h5 := h4.setK (putK R.most x3.ks ⟨fold f.q, bestF ss f.q R.many, decide ((allBest ss f.q).length ≤ R.many), x3.time⟩)
    have g5 : Go M4 (upM M4 A'.sh (shC g R.most R.term (putK R.most x3.ks ⟨fold f.q, bestF ss f.q R.many, decide ((allBest ss f.q).length ≤ R.many), x3.time⟩))) A' A' := Go.up (fp_sh A')
    have ok5 : AsOk R 1 { downA f.num x3 with ks := putK R.most x3.ks ⟨fold f.q, bestF ss f.q R.many, decide ((allBest ss f.q).length ≤ R.many), x3.time⟩ } := (ok3.down f.num).puts hR hk
    have h5 : IsAs g (upM M4 A'.sh (shC g R.most R.term (putK R.most x3.ks ⟨fold f.q, bestF ss f.q R.many, decide ((allBest ss f.q).length ≤ R.many), x3.time⟩))) A' R ss { downA f.num x3 with ks := putK R.most x3.ks ⟨fold f.q, bestF ss f.q R.many, decide ((allBest ss f.q).length ≤ R.many), x3.time⟩ } := h5
    generalize upM M4 A'.sh (shC g R.most R.term (putK R.most x3.ks ⟨fold f.q, bestF ss f.q R.many, decide ((allBest ss f.q).length ≤ R.many), x3.time⟩)) = M5 at h5 g5
    generalize putK R.most x3.ks ⟨fold f.q, bestF ss f.q R.many, decide ((allBest ss f.q).length ≤ R.many), x3.time⟩ = ks5 at fin ok5 h5
    have g5 := g4.trans g5
    generalize decide ((allBest ss f.q).length ≤ R.many) = all
    walk_at "d"
    refine l_din ?_
    walk_at "d"
    refine l_ak fl 12 rfl rfl h5 rfl ?_
    refine ⟨A'.dA, _, .inl (f.num : Int), rfl, h5.da, rfl, ?_⟩
    rw [any_asked]
    have ei : isIn f.num { downA f.num x3 with ks := ks5 } = isIn f.num x3 := rfl
    have hlog : (({ downA f.num x3 with ks := ks5 } : As).log.map lgD).length ≤ 100000 := by
      rw [List.length_map]
      show x3.log.length ≤ 100000
      omega
    rw [ei]
    refine ⟨_, rfl, fun e => ?_, fun e => ?_⟩
    · rw [if_pos e] at fin
      obtain ⟨d2, hv2⟩ : ∃ d, valD (kvA { downA f.num x3 with ks := ks5 }) (.inl (f.num : Int)) = some d := by
        have := any_asked { downA f.num x3 with ks := ks5 } f.num
        rw [ei, e] at this
        exact Option.isSome_iff_exists.mp this
      walk_at "d"
      refine l_dpop1 (l_ak fl 12 rfl rfl h5 rfl ⟨A'.dA, _, rfl, h5.da, ?_⟩)
      walk_at "d"
      refine ⟨_, .inl (f.num : Int), _, h5.da, rfl, hv2, ?_⟩
      rw [kvA_drop]
      have h6 : IsAs g (upM M5 A'.dA (.dic (kvA (outA f.num { downA f.num x3 with ks := ks5 })))) A' R ss (outA f.num { downA f.num x3 with ks := ks5 }) := h5.setA (outA f.num { downA f.num x3 with ks := ks5 }).asked
      have g6 : Go M5 (upM M5 A'.dA (.dic (kvA (outA f.num { downA f.num x3 with ks := ks5 })))) A' A' := Go.up (fp_dA A')
      generalize upM M5 A'.dA (.dic (kvA (outA f.num { downA f.num x3 with ks := ks5 }))) = M6 at h6 g6
      walk_at "d"
      refine l_bmL (l_ak fl 15 rfl rfl h6 rfl ⟨⟨_, isL_ref h6.lg⟩, ?_⟩)
      walk_at "d"
      refine m_append h6.lg hlog ?_
      have e7 : (outA f.num { downA f.num x3 with ks := ks5 }).log.map lgD ++ [D.tup [.str [99, 97, 109, 101], .int (f.num : Int)]] = (x3.log ++ [Lg.came f.num]).map lgD := by
        rw [List.map_append]
        rfl
      have h7 := h6.setL (x3.log ++ [Lg.came f.num])
      have g7 : Go M6 (upM M6 A'.lg (.lst ((x3.log ++ [Lg.came f.num]).map lgD))) A' A' := Go.up (fp_lg A')
      rw [e7]
      generalize upM M6 A'.lg (.lst ((x3.log ++ [Lg.came f.num]).map lgD)) = M7 at h7 g7
      walk_at "d"
      refine l_akM (by decide) rfl h7 ?_
      walk_at "d"
      refine ⟨A', R, ss, _, 0, bestF ss f.q R.many, rfl, ⟨h7, (ok5.mono (Nat.zero_le _)).out (n := f.num) e (.came f.num) trivial x3.due, hR, h.rs, le3⟩, best_ok h.rs, fun M8 h8 g8 => ?_⟩
      exact fin M8 _ _ _ _ h8 (((g5.trans g6).trans g7).trans g8)
    · rw [if_neg (by rw [e]; exact Bool.false_ne_true)] at fin
      walk_at "d"
      refine l_bmL (l_ak fl 15 rfl rfl h5 rfl ⟨⟨_, isL_ref h5.lg⟩, ?_⟩)
      walk_at "d"
      refine m_append h5.lg hlog ?_
      have e7 : ({ downA f.num x3 with ks := ks5 } : As).log.map lgD ++ [D.tup [.str [108, 97, 116, 101], .int (f.num : Int)]] = (x3.log ++ [Lg.late f.num]).map lgD := by
        rw [List.map_append]
        rfl
      have h7 := h5.setL (x3.log ++ [Lg.late f.num])
      have g7 : Go M5 (upM M5 A'.lg (.lst ((x3.log ++ [Lg.late f.num]).map lgD))) A' A' := Go.up (fp_lg A')
      rw [e7]
      generalize upM M5 A'.lg (.lst ((x3.log ++ [Lg.late f.num]).map lgD)) = M7 at h7 g7
      walk_at "d"
      refine l_akM (by decide) rfl h7 ?_
      walk_at "d"
      refine ⟨A', R, ss, _, 0, rfl, ⟨h7, ok5.log (.late f.num) trivial, hR, h.rs, le3⟩, fun M8 h8 g8 => ?_⟩
      exact fin M8 _ _ _ _ h8 ((g5.trans g7).trans g8)
  · rintro ρ' M' ⟨A', y1, y2, y3, y4, rfl, ea, h3, g3⟩
    rw [List.length_map, List.take_length] at h3
    have ok3 : AsOk R 0 ((dueL x.ws (x.time + 1)).foldl (arriveA R ss) (wakeA x)) := AsOk.arrives hR h.rs _ hdq ok2
    have se3 : ((dueL x.ws (x.time + 1)).foldl (arriveA R ss) (wakeA x)).sent = x.sent := by rw [arrives_sent, se2]
    generalize (dueL x.ws (x.time + 1)).foldl (arriveA R ss) (wakeA x) = x3 at h3 ok3 se3 q
    rw [← ea]
    walk_at "d"
    refine l_akM (by decide) rfl h3 ?_
    walk_at "d"
    refine ⟨A', R, ss, x3, 0, rfl, ⟨h3, ok3, hR, h.rs, by omega⟩, fun M4 h4 g4 => ?_⟩
    have ok4 := ok3.try
    walk_at "d"
    refine l_akM (by decide) rfl h4 ?_
    walk_at "d"
    refine ⟨A', R, ss, tryA R x3, 0, rfl, ⟨h4, ok4, hR, h.rs, by rw [try_sent]; omega⟩, fun M5 h5 g5 => ?_⟩
    exact q M5 A' h5 ((g3.trans g4).trans g5)
theorem d_Asker_tick {g : G} (fl : FlK g) : Keeps 2 nm_Asker_tick (t_Asker_tick g) (ds_Asker_tick g) := by
  rintro W xs M Q E - ⟨A, R, ss, x, m, rfl, h, hle, q1, q2⟩
  show lS W (t_Asker_tick g W) [some (.ref A.a), some (.int m), none] M _ _
  unfold t_Asker_tick
  walk_at "d"
  refine ⟨fun e1 => ?_, fun e1 => ?_⟩
  · have e1 := of_decide_eq_true e1
    walk_at "d"
    refine ⟨fun e2 => ?_, fun e2 => ?_⟩
    · have e2 : ¬ m ≤ 100 := by simpa using e2
      walk_at "d"
      exact q2 fun z => e2 z.2
    · have e2 : m ≤ 100 := by simpa using e2
      have q1 := q1 ⟨e1, e2⟩
      walk_at "d"
      refine s_for ?_
      walk_at "d"
      refine ⟨by omega, by omega, fun i ρ M' => ∃ (A' : Ad) (y : Option D), ρ = [some (.ref A.a), some (.int m), y] ∧ A'.a = A.a ∧ IsAs g M' A' R ss (tickA R ss i x) ∧ Go M M' A A', ⟨A, none, rfl, rfl, h.as, Go.refl M A⟩, fun _ _ _ _ => trivial, ?_, ?_⟩
      · rintro i ρ' M' d hd ⟨A', y, rfl, ea, h1, g1⟩
        obtain ⟨hi, rfl⟩ := rng_at hd
        have hs := tick_sent R ss i x
        have ok1 := h.ok.tick h.ru h.rs i
        rw [← ea]
        walk_at "d"
        refine l_akM (by decide) rfl h1 ?_
        walk_at "d"
        refine ⟨A', R, ss, _, rfl, ⟨h1, ok1, h.ru, h.rs, by omega⟩, fun M2 A2 h2 g2 => ?_⟩
        exact ⟨A2, _, rfl, by rw [g2.sm], by rw [tick_snoc]; exact h2, g1.trans g2⟩
      · rintro ρ' M' ⟨A', y, rfl, ea, h1, g1⟩
        rw [rng_len] at h1
        exact q1 M' A' h1 g1
  · have e1 := of_decide_eq_false e1
    walk_at "d"
    exact q2 fun z => e1 z.1
abbrev nm_Asker_put : List Str := ["self", "text"]
def t_Asker_put (g : G) (W : WX) : TS := (tSeq (tDrop (tCallS (sp_look_text g) (WE W) (tCons (tVar 1) (tCons (tC (.int 12)) tNil)))) (tSeq (tIfS (tTest (tOp (rNeA g.K) (tCallS (sp_folded g) (WE W) (tCons (tVar 1) tNil)) (tCallS (sp_folded g) (WE W) (tCons (tFld g.K (tVar 0) "now") tNil)))) (tSeq (tDrop (tMethS g.cK "drop_other" (sp_Asker_drop_other g) (WE W) (tVar 0) (tCons (tCallS (sp_folded g) (WE W) (tCons (tVar 1) tNil)) tNil))) (tSeq (sFld g.K (tVar 0) (tFld g.K (tVar 0) "time") "typed_at") (tSeq (sFld g.K (tVar 0) (tOp (rNeA g.K) (tCallS (sp_folded g) (WE W) (tCons (tVar 1) tNil)) (tC (.str (S [])))) "is_due") (sFld g.K (tVar 0) (tC (.int 0)) "tries")))) tNext) (tSeq (sFld g.K (tVar 0) (tVar 1) "now") (tSeq (tDrop (tMethS g.cK "look_near" (sp_Asker_look_near g) (WE W) (tVar 0) tNil)) (tDrop (tMethS g.cK "ask_if_due" (sp_Asker_ask_if_due g) (WE W) (tVar 0) tNil))))))
abbrev nm_Asker_key : List Str := ["self", "sign"]
def t_Asker_key (g : G) (W : WX) : TS := (tDrop (tMethS g.cK "put" (sp_Asker_put g) (WE W) (tVar 0) (tCons (tOp (rAddA g.K) (tFld g.K (tVar 0) "now") (tVar 1)) tNil)))
abbrev nm_Asker_rub : List Str := ["self"]
def t_Asker_rub (g : G) (W : WX) : TS := (tDrop (tMethS g.cK "put" (sp_Asker_put g) (WE W) (tVar 0) (tCons (tSl (rSlA g.K) (tFld g.K (tVar 0) "now") tNoPart (tPart (tUn rNegA (tC (.int 1))))) tNil)))
abbrev nm_Asker_again : List Str := ["self"]
def t_Asker_again (g : G) (W : WX) : TS := (tSeq (tIfS (tOr (tTest (tOp (rEqA g.K) (tCallS (sp_folded g) (WE W) (tCons (tFld g.K (tVar 0) "now") tNil)) (tC (.str (S []))))) (tTruA g.K (tFld g.K (tVar 0) "asked"))) (tRaiseC g.cA W) tNext) (tSeq (tDrop (tMethS g.cH "clear" (sp_Shelf_clear g) (WE W) (tFld g.K (tVar 0) "shelf") tNil)) (tSeq (sFld g.K (tVar 0) (tC (.bl true)) "is_due") (tSeq (sFld g.K (tVar 0) (tC (.int 0)) "tries") (tSeq (sFld g.K (tVar 0) (tOp (rSubA) (tFld g.K (tVar 0) "time") (tFld g.K (tVar 0) "pause")) "typed_at") (tDrop (tMethS g.cK "ask_if_due" (sp_Asker_ask_if_due g) (WE W) (tVar 0) tNil)))))))
abbrev nm_Asker___init__ : List Str := ["self", "store", "road", "shelf", "many", "pause", "asks", "patience"]
def t_Asker___init__ (g : G) (W : WX) : TS := (tSeq (tDrop (tCallS (sp_look_many g) (WE W) (tCons (tVar 4) tNil))) (tSeq (tIfS (tOr (tNot (tTest (tChain (rLeA) (rLeA) (tC (.int 0)) (tVar 5) (tC (.int 9))))) (tOr (tNot (tTest (tChain (rLeA) (rLeA) (tC (.int 1)) (tVar 6) (tC (.int 3))))) (tNot (tTest (tChain (rLeA) (rLeA) (tC (.int 1)) (tVar 7) (tC (.int 40))))))) (tRaiseC g.cN W) tNext) (tSeq (sFld g.K (tVar 0) (tVar 1) "store") (tSeq (sFld g.K (tVar 0) (tVar 2) "road") (tSeq (sFld g.K (tVar 0) (tVar 3) "shelf") (tSeq (sFld g.K (tVar 0) (tVar 4) "rows_most") (tSeq (sFld g.K (tVar 0) (tVar 5) "pause") (tSeq (sFld g.K (tVar 0) (tVar 6) "asks_most") (tSeq (sFld g.K (tVar 0) (tVar 7) "patience") (tSeq (sFld g.K (tVar 0) (tC (.int 0)) "time") (tSeq (sFld g.K (tVar 0) (tC (.str (S []))) "now") (tSeq (sFld g.K (tVar 0) (tC (.int 0)) "typed_at") (tSeq (sFld g.K (tVar 0) (tC (.bl false)) "is_due") (tSeq (sFld g.K (tVar 0) (tC (.int 0)) "tries") (tSeq (sFld g.K (tVar 0) tDNewK "asked") (tSeq (sFld g.K (tVar 0) tDNewK "flying") (tSeq (sFld g.K (tVar 0) (tC .non) "shown") (sFld g.K (tVar 0) (tLst tNil) "rows"))))))))))))))))))


/-! ### putting, asking anew, making -/
def putX (R : Ru) (text : List Nat) (x : As) : As := if fold text ≠ fold x.now then { dropA (some (fold text)) x with typed := x.time, due := decide (fold text ≠ []), tries := 0 } else x
theorem putA_eq (R : Ru) (text : List Nat) (x : As) : putA R text x = askA R (lookA R { putX R text x with now := text }) := rfl
theorem AsOk.putX {R : Ru} {k : Nat} {x : As} (h : AsOk R k x) {t : List Nat} (ht : okT 12 t = true) : AsOk R k { putX R t x with now := t } := by
  unfold DL.putX
  by_cases e : fold t ≠ fold x.now
  · rw [if_pos e]
    exact (h.drop (some (fold t))).own _ ⟨rfl, rfl, rfl, rfl, rfl, rfl⟩ ht h.so
  · rw [if_neg e]
    exact h.own _ ⟨rfl, rfl, rfl, rfl, rfl, rfl⟩ ht h.so
theorem putX_sent (R : Ru) (t : List Nat) (x : As) : (putX R t x).sent = x.sent := by
  unfold putX
  split <;> rfl
theorem put_sent (R : Ru) (t : List Nat) (x : As) : (putA R t x).sent ≤ x.sent + 1 := by
  rw [putA_eq]
  refine Nat.le_trans (ask_sent _ _) ?_
  rw [look_sent]
  show (putX R t x).sent + 1 ≤ _
  rw [putX_sent]
  exact Nat.le_refl _
theorem AsOk.put {R : Ru} {k : Nat} {x : As} (h : AsOk R k x) {t : List Nat} (ht : okT 12 t = true) : AsOk R k (putA R t x) := by
  rw [putA_eq]
  exact (h.putX ht).look.ask
theorem AsOk.again {R : Ru} {k : Nat} {x : As} (h : AsOk R k x) : AsOk R k (againA R x) := by
  unfold againA
  refine AsOk.ask ?_
  have h2 := h.kept [] (fun e m => absurd m (by simp)) (by simp)
  exact h2.own { x with ks := [], due := true, tries := 0, typed := x.time - R.pause } ⟨rfl, rfl, rfl, rfl, rfl, rfl⟩ h.now h.so
theorem again_sent (R : Ru) (x : As) : (againA R x).sent ≤ x.sent + 1 := ask_sent _ _
theorem okT_app12 {s t : List Nat} (h : okT 12 s = true) : (s ++ t).length ≤ 12 + t.length := by
  rw [List.length_append]
  have := okT_len h
  omega
theorem ok_init {m : Nat} {s : List Nat} (h : okT m s = true) : okT m s.dropLast = true := okT_of (by rw [List.length_dropLast]; have := okT_len h; omega) fun c hc => okT_all h c (List.dropLast_subset _ hc)
theorem d_Asker_put {g : G} (fl : FlK g) : Keeps 2 nm_Asker_put (t_Asker_put g) (ds_Asker_put g) := by
  rintro W xs M Q E - ⟨A, R, ss, x, t, rfl, h, htl, q1, q2⟩
  show lS W (t_Asker_put g W) [some (.ref A.a), some (.str t)] M _ _
  unfold t_Asker_put
  have hl := okT_len h.ok.now
  walk_at "d1"
  walk_at "d1"
  walk_at "d1"
  walk_at "d"
  refine ⟨t, 12, rfl, htl, fun ht => ?_, fun ht => q2 ht⟩
  have q1 := q1 ht
  rw [putA_eq] at q1
  have tl := okT_len ht
  have hx := h.ok.putX ht
  refine s_cut (fun ρ M1 => ρ = [some (.ref A.a), some (.str t)] ∧ IsAs g M1 A R ss (putX R t x) ∧ Go M M1 A A) ?_ ?_
  · unfold putX
    walk_at "d"
    refine ⟨by omega, fun _ => ?_, fun z => no20 ht z⟩
    walk_at "d"
    refine l_ak fl 8 rfl rfl h.as rfl ?_
    walk_at "d"
    refine ⟨by omega, fun _ => ?_, fun z => no20 h.ok.now z⟩
    walk_at "d"
    refine ⟨fun e => ?_, fun e => ?_⟩
    · have e : fold t ≠ fold x.now := by simpa using e
      rw [if_pos e]
      walk_at "d"
      refine l_akM (by decide) rfl h.as ?_
      walk_at "d"
      refine ⟨by omega, fun _ => ?_, fun z => no20 ht z⟩
      walk_at "d"
      refine ⟨A, R, ss, x, 0, some (fold t), rfl, h, fun s e => by obtain rfl := Option.some.inj e; exact ok20 (fold_ok ht), fun M1 h1 g1 => ?_⟩
      refine s_seq (s_ak fl 9 rfl rfl ?_)
      walk_at "d"
      refine l_ak fl 7 rfl rfl h1 rfl ?_
      refine ⟨A, R, ss, _, { dropA (some (fold t)) x with typed := x.time }, rfl, h1, rfl, ⟨rfl, rfl, rfl, rfl, rfl, rfl⟩, fun M2 h2 g2 => ?_⟩
      refine s_seq (s_ak fl 10 rfl rfl ?_)
      walk_at "d"
      refine ⟨by omega, fun _ => ?_, fun z => no20 ht z⟩
      walk_at "d"
      have en : (!decide (fold t = [])) = decide (fold t ≠ []) := not_eq_dec
      rw [en]
      refine ⟨A, R, ss, _, { dropA (some (fold t)) x with typed := x.time, due := decide (fold t ≠ []) }, rfl, h2, rfl, ⟨rfl, rfl, rfl, rfl, rfl, rfl⟩, fun M3 h3 g3 => ?_⟩
      refine s_ak fl 11 rfl rfl ?_
      walk_at "d"
      refine ⟨A, R, ss, _, { dropA (some (fold t)) x with typed := x.time, due := decide (fold t ≠ []), tries := 0 }, rfl, h3, rfl, ⟨rfl, rfl, rfl, rfl, rfl, rfl⟩, fun M4 h4 g4 => ?_⟩
      exact ⟨rfl, h4, ((g1.trans g2).trans g3).trans g4⟩
    · have e : ¬ fold t ≠ fold x.now := by simpa using e
      rw [if_neg e]
      walk_at "d"
      exact ⟨h.as, Go.refl M A⟩
  · rintro ρ' M1 ⟨rfl, h1, g1⟩
    refine s_seq (s_ak fl 8 rfl rfl ?_)
    walk_at "d"
    refine ⟨A, R, ss, _, { putX R t x with now := t }, rfl, h1, rfl, ⟨rfl, rfl, rfl, rfl, rfl, rfl⟩, fun M2 h2 g2 => ?_⟩
    have hs : ({ putX R t x with now := t } : As).sent = x.sent := putX_sent R t x
    generalize ({ putX R t x with now := t } : As) = x2 at h2 hs hx q1
    have hle := h.le
    walk_at "d"
    refine l_akM (by decide) rfl h2 ?_
    walk_at "d"
    refine ⟨A, R, ss, x2, 0, rfl, ⟨h2, hx, h.ru, h.rs, by omega⟩, fun M3 h3 g3 => ?_⟩
    walk_at "d"
    refine l_akM (by decide) rfl h3 ?_
    walk_at "d"
    refine ⟨A, R, ss, _, 0, rfl, ⟨h3, hx.look, h.ru, h.rs, by rw [look_sent]; omega⟩, fun M4 h4 g4 => ?_⟩
    exact q1 M4 h4 (((g1.trans g2).trans g3).trans g4)
theorem d_Asker_key {g : G} (fl : FlK g) : Keeps 2 nm_Asker_key (t_Asker_key g) (ds_Asker_key g) := by
  rintro W xs M Q E - ⟨A, R, ss, x, t, rfl, h, htl, q1, q2⟩
  show lS W (t_Asker_key g W) [some (.ref A.a), some (.str t)] M _ _
  unfold t_Asker_key
  have hl := okT_len h.ok.now
  walk_at "d"
  refine l_akM (by decide) rfl h.as ?_
  walk_at "d"
  refine l_ak fl 8 rfl rfl h.as rfl ?_
  walk_at "d"
  refine r_addS (by omega) ?_
  walk_at "d"
  exact ⟨A, R, ss, x, x.now ++ t, rfl, h, by rw [List.length_append]; omega, q1, q2⟩
theorem d_Asker_rub {g : G} (fl : FlK g) : Keeps 1 nm_Asker_rub (t_Asker_rub g) (ds_Asker_rub g) := by
  rintro W xs M Q E - ⟨A, R, ss, x, rfl, h, q⟩
  show lS W (t_Asker_rub g W) [some (.ref A.a)] M _ _
  unfold t_Asker_rub
  have hl := okT_len h.ok.now
  walk_at "d"
  refine l_akM (by decide) rfl h.as ?_
  walk_at "d"
  refine l_ak fl 8 rfl rfl h.as rfl ?_
  walk_at "d"
  refine sl_S (by omega) ?_
  rw [show (-(1 : Int)) = -1 from rfl, cut_butlast]
  walk_at "d"
  exact ⟨A, R, ss, x, x.now.dropLast, rfl, h, by rw [List.length_dropLast]; omega, fun _ => q, fun z => absurd (ok_init h.ok.now) (by rw [z]; exact Bool.false_ne_true)⟩
theorem d_Asker_again {g : G} (fl : FlK g) : Keeps 1 nm_Asker_again (t_Asker_again g) (ds_Asker_again g) := by
  rintro W xs M Q E - ⟨A, R, ss, x, rfl, h, q1, q2⟩
  show lS W (t_Asker_again g W) [some (.ref A.a)] M _ _
  unfold t_Asker_again
  have hl := okT_len h.ok.now
  walk_at "d"
  refine l_ak fl 8 rfl rfl h.as rfl ?_
  walk_at "d"
  refine ⟨by omega, fun _ => ?_, fun z => no20 h.ok.now z⟩
  walk_at "d"
  refine ⟨fun e => ?_, fun e => ?_⟩
  · walk_at "d"
    exact q2 fun z => z.1 (of_decide_eq_true e)
  · have e := of_decide_eq_false e
    walk_at "d"
    refine l_ak fl 12 rfl rfl h.as rfl ⟨_, tru_dic h.as.da, ?_⟩
    cases ha : x.asked with
    | cons p ps =>
      have : (kvA x).isEmpty = false := by unfold kvA; rw [ha]; rfl
      rw [this]
      refine br_nt ?_
      walk_at "d"
      exact q2 fun z => by rw [ha] at z; cases z.2
    | nil =>
      have : (kvA x).isEmpty = true := by unfold kvA; rw [ha]; rfl
      rw [this]
      refine br_nf ?_
      have q1 := q1 ⟨e, ha⟩
      unfold againA at q1
      walk_at "d"
      refine l_meth (l_ak fl 2 rfl rfl h.as rfl ⟨A.sh, shNs, _, rfl, h.as.sh, by decide, ?_⟩)
      walk_at "d"
      refine ⟨A.sh, R.most, R.term, x.ks, rfl, h.as.sh, ?_⟩
      have h1 := h.as.setK []
      have g1 : Go M (upM M A.sh (shC g R.most R.term [])) A A := Go.up (fp_sh A)
      generalize upM M A.sh (shC g R.most R.term []) = M1 at h1 g1
      refine s_seq (s_ak fl 10 rfl rfl ?_)
      walk_at "d"
      refine ⟨A, R, ss, _, { x with ks := [], due := true }, rfl, h1, rfl, ⟨rfl, rfl, rfl, rfl, rfl, rfl⟩, fun M2 h2 g2 => ?_⟩
      refine s_seq (s_ak fl 11 rfl rfl ?_)
      walk_at "d"
      refine ⟨A, R, ss, _, { x with ks := [], due := true, tries := 0 }, rfl, h2, rfl, ⟨rfl, rfl, rfl, rfl, rfl, rfl⟩, fun M3 h3 g3 => ?_⟩
      refine s_seq (s_ak fl 9 rfl rfl ?_)
      walk_at "d"
      refine l_ak fl 7 rfl rfl h3 rfl ?_
      walk_at "d"
      refine l_ak fl 4 rfl rfl h3 rfl ?_
      walk_at "d"
      refine ⟨A, R, ss, _, { x with ks := [], due := true, tries := 0, typed := x.time - R.pause }, rfl, h3, rfl, ⟨rfl, rfl, rfl, rfl, rfl, rfl⟩, fun M4 h4 g4 => ?_⟩
      have ok4 : AsOk R 0 { x with ks := [], due := true, tries := 0, typed := x.time - R.pause } := (h.ok.kept [] (fun e m => absurd m (by simp)) (by simp)).own _ ⟨rfl, rfl, rfl, rfl, rfl, rfl⟩ h.ok.now h.ok.so
      walk_at "d"
      refine l_akM (by decide) rfl h4 ?_
      walk_at "d"
      refine ⟨A, R, ss, _, 0, rfl, ⟨h4, ok4, h.ru, h.rs, h.le⟩, fun M5 h5 g5 => ?_⟩
      exact q1 M5 h5 ((((g1.trans g2).trans g3).trans g4).trans g5)
/-- the next field of a new asker -/
theorem s_akN {W : WX} {X : XD} {ρ : En} {M : Mh} {B : DE} {g : G} (fl : FlK g) {f : Str} {a : Addr} {tv : TE} (i : Nat) (hi : akNs[i]? = some f) (hρ : ρ[0]? = some (some (.ref a))) (h : lE W tv ρ M (fun y M1 => ∃ ds, M1 a = some (.ins g.cK (akNs.take i) ds) ∧ B.nx ρ (upM M1 a (.ins g.cK (akNs.take i ++ [f]) (ds ++ [y])))) X) : lS W (sFld g.K (tVar 0) tv f) ρ M B X :=
  s_fldN fl i hi rfl (lE_mono h fun y M1 ⟨ds, h1, h2⟩ => l_var hρ ⟨a, ds, rfl, h1, h2⟩)
theorem tag_new {C : Addr} : tagC (.ins C [] []) = 2 := by
  show 2 + 0 + (if ([] : List Str) = rdNs then 100 else 0) = 2
  rw [if_neg (by decide)]
theorem d_Asker___init__ {g : G} (fl : FlK g) : Keeps 8 nm_Asker___init__ (t_Asker___init__ g) (ds_Asker___init__ g) := by
  rintro W xs M Q E - ⟨a, st, sr, rd, u, sh, m, p, k, t, ss, dl, n, ws, most, term, ks, rfl, ha, hst, hrd, hsh, hsu, q1, q2⟩
  show lS W (t_Asker___init__ g W) [some (.ref a), some (.ref st), some (.ref rd), some (.ref sh), some (.int m), some (.int p), some (.int k), some (.int t)] M _ _
  unfold t_Asker___init__
  unfold ruGood at q1 q2
  walk_at "d"
  refine ⟨fun hm => ?_, fun hm => q2 fun z => hm z.1⟩
  have bad : ¬ (0 ≤ p ∧ p ≤ 9 ∧ 1 ≤ k ∧ k ≤ 3 ∧ 1 ≤ t ∧ t ≤ 40) → E g.cN M := fun h => q2 fun z => h z.2
  have q1 := fun z => q1 ⟨hm, z⟩
  walk_at "d"
  refine ⟨fun h1 => ?_, fun h1 => ?_⟩
  rotate_left
  · have h1 := of_decide_eq_false h1
    walk_at "d"
    exact bad fun z => h1 z.1
  have h1 := of_decide_eq_true h1
  walk_at "d"
  refine ⟨fun h2 => ?_, fun h2 => ?_⟩
  · have h2 : ¬ p ≤ 9 := by simpa using h2
    walk_at "d"
    exact bad fun z => h2 z.2.1
  have h2 : p ≤ 9 := by simpa using h2
  walk_at "d"
  refine ⟨fun h3 => ?_, fun h3 => ?_⟩
  rotate_left
  · have h3 := of_decide_eq_false h3
    walk_at "d"
    exact bad fun z => h3 z.2.2.1
  have h3 := of_decide_eq_true h3
  walk_at "d"
  refine ⟨fun h4 => ?_, fun h4 => ?_⟩
  · have h4 : ¬ k ≤ 3 := by simpa using h4
    walk_at "d"
    exact bad fun z => h4 z.2.2.2.1
  have h4 : k ≤ 3 := by simpa using h4
  walk_at "d"
  refine ⟨fun h5 => ?_, fun h5 => ?_⟩
  rotate_left
  · have h5 := of_decide_eq_false h5
    walk_at "d"
    exact bad fun z => h5 z.2.2.2.2.1
  have h5 := of_decide_eq_true h5
  walk_at "d"
  refine ⟨fun h6 => ?_, fun h6 => ?_⟩
  · have h6 : ¬ t ≤ 40 := by simpa using h6
    walk_at "d"
    exact bad fun z => h6 z.2.2.2.2.2
  have h6 : t ≤ 40 := by simpa using h6
  have q1 := q1 ⟨h1, h2, h3, h4, h5, h6⟩
  walk_at "d1"
  refine s_seq (s_akN fl 0 rfl rfl (l_var rfl ⟨_, ha, ?_⟩))
  refine s_seq (s_akN fl 1 rfl rfl (l_var rfl ⟨_, upM_same, ?_⟩))
  rw [upM_upM]
  refine s_seq (s_akN fl 2 rfl rfl (l_var rfl ⟨_, upM_same, ?_⟩))
  rw [upM_upM]
  refine s_seq (s_akN fl 3 rfl rfl (l_var rfl ⟨_, upM_same, ?_⟩))
  rw [upM_upM]
  refine s_seq (s_akN fl 4 rfl rfl (l_var rfl ⟨_, upM_same, ?_⟩))
  rw [upM_upM]
  refine s_seq (s_akN fl 5 rfl rfl (l_var rfl ⟨_, upM_same, ?_⟩))
  rw [upM_upM]
  refine s_seq (s_akN fl 6 rfl rfl (l_var rfl ⟨_, upM_same, ?_⟩))
  rw [upM_upM]
  refine s_seq (s_akN fl 7 rfl rfl (l_int ⟨_, upM_same, ?_⟩))
  rw [upM_upM]
  refine s_seq (s_akN fl 8 rfl rfl (l_strS ⟨_, upM_same, ?_⟩))
  rw [upM_upM]
  refine s_seq (s_akN fl 9 rfl rfl (l_int ⟨_, upM_same, ?_⟩))
  rw [upM_upM]
  refine s_seq (s_akN fl 10 rfl rfl (l_bl ⟨_, upM_same, ?_⟩))
  rw [upM_upM]
  refine s_seq (s_akN fl 11 rfl rfl (l_int ⟨_, upM_same, ?_⟩))
  rw [upM_upM]
  refine s_seq (s_akN fl 12 rfl rfl (l_dnewK fun dA hdA => ?_))
  have hA1 : a ≠ dA := fun z => by rw [← z, upM_same] at hdA; cases hdA
  have hdA0 : M dA = none := by rw [upM_ne hA1.symm] at hdA; exact hdA
  refine ⟨_, by rw [upM_ne hA1, upM_same]; rfl, ?_⟩
  rw [upM_swap2 hA1]
  refine s_seq (s_akN fl 13 rfl rfl (l_dnewK fun dF hdF => ?_))
  have hF1 : a ≠ dF := fun z => by rw [← z, upM_same] at hdF; cases hdF
  rw [upM_ne hF1.symm] at hdF
  have hF2 : dA ≠ dF := fun z => by rw [← z, upM_same] at hdF; cases hdF
  have hdF0 : M dF = none := by rw [upM_ne hF2.symm] at hdF; exact hdF
  refine ⟨_, by rw [upM_ne hF1, upM_same]; rfl, ?_⟩
  rw [upM_swap2 hF1]
  refine s_seq (s_akN fl 14 rfl rfl (l_non ⟨_, by rw [upM_same]; rfl, ?_⟩))
  rw [upM_upM]
  refine s_akN fl 15 rfl rfl (l_lstM ?_)
  walk_at "d"
  intro lg hlg
  have hL1 : a ≠ lg := fun z => by rw [← z, upM_same] at hlg; cases hlg
  rw [upM_ne hL1.symm] at hlg
  have hL2 : dF ≠ lg := fun z => by rw [← z, upM_same] at hlg; cases hlg
  rw [upM_ne hL2.symm] at hlg
  have hL3 : dA ≠ lg := fun z => by rw [← z, upM_same] at hlg; cases hlg
  have hlg0 : M lg = none := by rw [upM_ne hL3.symm] at hlg; exact hlg
  refine ⟨_, by rw [upM_ne hL1, upM_same]; rfl, ?_⟩
  rw [upM_swap2 hL1]
  obtain ⟨m, rfl⟩ : ∃ j : Nat, m = (j : Int) := ⟨m.toNat, by omega⟩
  have kp : ∀ (c : Cell) (b : Addr) (e : Cell), M b = some e → b ≠ a → upM (upM (upM (upM M dA (.dic [])) dF (.dic [])) lg (.lst [])) a c b = some e := fun c b e hb hn => by
    rw [upM_ne hn, upM_ne (ne_cell hb hlg0), upM_ne (ne_cell hb hdF0), upM_ne (ne_cell hb hdA0)]
    exact hb
  have nst : st ≠ a := ne_tag hst.ob ha (by rw [tag_st, tag_new]; decide)
  have nsr : sr ≠ a := ne_tag hst.rs ha (by rw [tag_lst, tag_new]; decide)
  have nrd : rd ≠ a := ne_tag hrd.ob ha (by rw [tag_rd, tag_new]; decide)
  have nu : u ≠ a := ne_tag hrd.us ha (by rw [tag_lst, tag_new]; decide)
  have nsh : sh ≠ a := ne_tag hsh ha (by rw [tag_sh, tag_new]; decide)
  refine q1 _ ⟨a, dA, dF, lg, st, sr, rd, u, sh⟩ ⟨rfl, rfl, rfl, rfl, rfl, rfl⟩ ⟨hdA0, hdF0, hlg0⟩ ?_ (kp _)
  exact ⟨upM_same, by rw [upM_ne hA1.symm, upM_ne hL3, upM_ne hF2, upM_same]; rfl, by rw [upM_ne hF1.symm, upM_ne hL2, upM_same]; rfl, by rw [upM_ne hL1.symm, upM_same]; rfl, ⟨kp _ _ _ hst.ob nst, kp _ _ _ hst.rs nsr⟩, ⟨kp _ _ _ hrd.ob nrd, kp _ _ _ hrd.us nu⟩, kp _ _ _ hsh nsh, hF2, (ne_cell hst.rs hlg0).symm, (ne_cell hrd.us hlg0).symm, hsu⟩


/-! ### askers in laws: their cells stand apart from the law's own -/
def out (A : Ad) : List Addr := A.st :: A.sr :: fp A
section
variable {g : G} {M M' : Mh} {A A' : Ad} {R : Ru} {ss : List (List Nat)} {x : As}
theorem IsAs.some (h : IsAs g M A R ss x) : ∀ b ∈ out A, ∃ c, M b = some c := fun b hb => by
  unfold out fp at hb
  simp only [List.mem_cons, List.not_mem_nil, or_false] at hb
  rcases hb with rfl | rfl | rfl | rfl | rfl | rfl | rfl | rfl | rfl
  · exact ⟨_, h.st.ob⟩
  · exact ⟨_, h.st.rs⟩
  · exact ⟨_, h.ob⟩
  · exact ⟨_, h.da⟩
  · exact ⟨_, h.df⟩
  · exact ⟨_, h.lg⟩
  · exact ⟨_, h.rd.ob⟩
  · exact ⟨_, h.rd.us⟩
  · exact ⟨_, h.sh⟩
theorem IsAs.keep (h : IsAs g M A R ss x) (k : ∀ b ∈ out A, M' b = M b) : IsAs g M' A R ss x := by
  have m : ∀ b, b = A.st ∨ b = A.sr ∨ b = A.a ∨ b = A.dA ∨ b = A.dF ∨ b = A.lg ∨ b = A.rd ∨ b = A.u ∨ b = A.sh → M' b = M b := fun b hb => k b (by
    unfold out fp
    simp only [List.mem_cons, List.not_mem_nil, or_false]
    exact hb)
  exact ⟨by rw [m _ (by simp)]; exact h.ob, by rw [m _ (by simp)]; exact h.da, by rw [m _ (by simp)]; exact h.df, by rw [m _ (by simp)]; exact h.lg, ⟨by rw [m _ (by simp)]; exact h.st.ob, by rw [m _ (by simp)]; exact h.st.rs⟩, ⟨by rw [m _ (by simp)]; exact h.rd.ob, by rw [m _ (by simp)]; exact h.rd.us⟩, by rw [m _ (by simp)]; exact h.sh, h.d1, h.l1, h.l2, h.l3⟩
theorem IsAs.fresh (h : IsAs g M A R ss x) {b : Addr} (hb : M b = none) : b ∉ out A := fun z => by
  obtain ⟨c, e⟩ := h.some b z
  rw [hb] at e
  cases e
theorem IsAs.up (h : IsAs g M A R ss x) {b : Addr} {c : Cell} (hb : b ∉ out A) : IsAs g (upM M b c) A R ss x := h.keep fun d hd => upM_ne fun z => hb (by rw [← z]; exact hd)
theorem IsAs.tw (h : IsAs g M A R ss x) {t : Addr} {n : Nat} (w : Tw M t n M') (ht : t ∉ out A) : IsAs g M' A R ss x := h.keep fun d hd => w.ne fun z => ht (by rw [← z]; exact hd)
theorem out_fp {b : Addr} (h : b ∉ out A) : b ∉ fp A := fun z => h (List.mem_cons_of_mem _ (List.mem_cons_of_mem _ z))
theorem Go.out (h : Go M M' A A') {b : Addr} {c : Cell} (hb : M b = some c) (hn : b ∉ out A) : M' b = some c ∧ b ∉ DL.out A' := by
  obtain ⟨h1, h2⟩ := h.off hb (out_fp hn)
  refine ⟨h1, fun z => ?_⟩
  unfold DL.out at z
  rcases List.mem_cons.mp z with z | z
  · refine hn ?_
    rw [z, h.sm]
    exact List.mem_cons_self
  · rcases List.mem_cons.mp z with z | z
    · refine hn ?_
      rw [z, h.sm]
      exact List.mem_cons_of_mem _ List.mem_cons_self
    · exact h2 z
theorem Go.twn (h : Go M M' A A') {t : Addr} {n : Nat} (ht : Twn M t n) (hn : t ∉ DL.out A) : Twn M' t n ∧ t ∉ DL.out A' := by
  obtain ⟨zs, e, hl⟩ := ht
  obtain ⟨h1, h2⟩ := h.out e hn
  exact ⟨⟨zs, h1, hl⟩, h2⟩
/-- an asker is made in a law: what is known of the new cells -/
theorem out_new {b : Addr} {c : Cell} (hb : M b = some c) (n1 : M A.dA = none) (n2 : M A.dF = none) (n3 : M A.lg = none) (e0 : b ≠ A.a) (e1 : b ≠ A.st) (e2 : b ≠ A.sr) (e3 : b ≠ A.rd) (e4 : b ≠ A.u) (e5 : b ≠ A.sh) : b ∉ DL.out A := fun z => by
  unfold DL.out fp at z
  simp only [List.mem_cons, List.not_mem_nil, or_false] at z
  have f : ∀ d, M d = none → b ≠ d := fun d hd y => by rw [y, hd] at hb; cases hb
  rcases z with z | z | z | z | z | z | z | z | z
  · exact e1 z
  · exact e2 z
  · exact e0 z
  · exact f _ n1 z
  · exact f _ n2 z
  · exact f _ n3 z
  · exact e3 z
  · exact e4 z
  · exact e5 z
end
theorem ne_sym {α : Type} {a b : α} (h : a ≠ b) : b ≠ a := fun z => h z.symm
section
variable {g : G} {M M' : Mh} {t : Addr} {A A' : Ad} {R : Ru} {ss : List (List Nat)} {x x' : As} {n m : Nat}
/-- a view, its cell known no more as one that may change -/
theorem l_view {W : WX} {X : XD} {ρ : En} {Q : D → Mh → Prop} {k : Nat} {i : Nat} (hρ : ρ[i]? = some (some (.ref A.a))) (h : IsAs g M A R ss x) (ok : AsOk R k x) (q : Q (.tup [.str (viewW x), .str (viewK x), .lst ((viewR x).map D.str)]) M) : lE W (tMethS g.cK "view" (sp_Asker_view g) (WE W) (tVar i) tNil) ρ M Q X := by
  refine l_frzA (l_meth (l_var hρ ⟨A.a, akNs, _, rfl, h.ob, by decide, a_nil ⟨rfl, A, R, ss, x, k, rfl, h, ok, fun l hl => ⟨l, _, upM_same, ?_⟩⟩⟩))
  rw [deM_upM hl]
  have e : frzD l ((viewR x).map D.str) (.tup [.str (viewW x), .str (viewK x), .ref l]) = .tup [.str (viewW x), .str (viewK x), .lst ((viewR x).map D.str)] := by
    simp [frzD, frzDs]
  rw [e]
  exact q
/-- a log, likewise -/
theorem l_log {W : WX} {X : XD} {ρ : En} {Q : D → Mh → Prop} {i : Nat} (hρ : ρ[i]? = some (some (.ref A.a))) (h : IsAs g M A R ss x) (q : Q (.lst (x.log.map lgD)) M) : lE W (tMethS g.cK "log" (sp_Asker_log g) (WE W) (tVar i) tNil) ρ M Q X := by
  refine l_frzA (l_meth (l_var hρ ⟨A.a, akNs, _, rfl, h.ob, by decide, a_nil ⟨rfl, A, R, ss, x, rfl, h, fun l hl => ⟨l, _, upM_same, ?_⟩⟩⟩))
  rw [deM_upM hl]
  have e : frzD l (x.log.map lgD) (.ref l) = .lst (x.log.map lgD) := by simp [frzD]
  rw [e]
  exact q
theorem l_typed {W : WX} {X : XD} {ρ : En} {Q : D → Mh → Prop} {i : Nat} (hρ : ρ[i]? = some (some (.ref A.a))) (h : IsAs g M A R ss x) (q : Q (.str x.now) M) : lE W (tMethS g.cK "typed" (sp_Asker_typed g) (WE W) (tVar i) tNil) ρ M Q X :=
  l_meth (l_var hρ ⟨A.a, akNs, _, rfl, h.ob, by decide, a_nil ⟨rfl, A, R, ss, x, rfl, h, q⟩⟩)
theorem l_clock {W : WX} {X : XD} {ρ : En} {Q : D → Mh → Prop} {i : Nat} (hρ : ρ[i]? = some (some (.ref A.a))) (h : IsAs g M A R ss x) (q : Q (.int x.time) M) : lE W (tMethS g.cK "clock" (sp_Asker_clock g) (WE W) (tVar i) tNil) ρ M Q X :=
  l_meth (l_var hρ ⟨A.a, akNs, _, rfl, h.ob, by decide, a_nil ⟨rfl, A, R, ss, x, rfl, h, q⟩⟩)
theorem l_waits {W : WX} {X : XD} {ρ : En} {Q : D → Mh → Prop} {i : Nat} (hρ : ρ[i]? = some (some (.ref A.a))) (h : IsAs g M A R ss x) (q : Q (.bl (waitA x)) M) : lE W (tMethS g.cK "is_waiting" (sp_Asker_is_waiting g) (WE W) (tVar i) tNil) ρ M Q X :=
  l_meth (l_var hρ ⟨A.a, akNs, _, rfl, h.ob, by decide, a_nil ⟨rfl, A, R, ss, x, rfl, h, q⟩⟩)
/-- a method of the asker in a slot -/
theorem l_askM {W : WX} {X : XD} {ρ : En} {Q : D → Mh → Prop} {mn : Str} {k : Nat} {sp : DSp} {ta : TA} {i : Nat} (hm : mn ∉ akNs) (hρ : ρ[i]? = some (some (.ref A.a))) (h : IsAs g M A R ss x) (q : lA W ta ρ M (fun xs M2 => (D.ref A.a :: xs).length = k ∧ sp (.ref A.a :: xs) M2 Q (fun c M3 => X c ρ M3)) X) : lE W (tMethS g.cK mn (lift k sp) (WE W) (tVar i) ta) ρ M Q X :=
  l_meth (l_var hρ ⟨A.a, akNs, _, rfl, h.ob, hm, q⟩)
/-- the store's answer -/
theorem l_answer {W : WX} {X : XD} {ρ : En} {Q : D → Mh → Prop} {i : Nat} {ta : TA} {q : List Nat} {k : Nat} (hρ : ρ[i]? = some (some (.ref A.st))) (h : IsAs g M A R ss x) (hs : rowsOk ss) (hq : okT 12 q = true) (h1 : 1 ≤ k) (h6 : k ≤ 6)
    (a : lA W ta ρ M (fun xs M2 => xs = [.str q, .int (k : Int)] ∧ M2 = M) X) (qq : Q (ansD ss q k) M) : lE W (tMethS g.cS "answer" (sp_Store_answer g) (WE W) (tVar i) ta) ρ M Q X := by
  refine l_meth (l_var hρ ⟨A.st, _, _, rfl, h.st.ob, by decide, ?_⟩)
  refine fun σ H kk s e p px => a σ H kk s e (fun vs ds H' M' hh s' t' r' => p vs ds H' M' ?_ s' t' r') px
  obtain ⟨rfl, rfl⟩ := hh
  have hl := okT_len hq
  refine ⟨rfl, A.st, A.sr, ss, q, k, rfl, by omega, hs, h.st, fun _ => ?_, fun w hw => ?_⟩
  · rw [Int.toNat_natCast]
    exact qq
  · unfold ansF at hw
    rw [if_pos (by omega), if_pos hq] at hw
    cases hw
end
theorem lg_ok {l : Lg} (h : lgOk l) : OkN 1 (lgD l) := by
  cases l with
  | asked n k => exact OkN.tup (OkN.cons (OkN.str fun c hc => by revert c hc; decide) (OkN.cons OkN.int (OkN.cons (OkN.str fun c hc => by have := okC_asc (okT_all h c hc); omega) OkN.nil)))
  | came n => exact OkN.tup (OkN.cons (OkN.str fun c hc => by revert c hc; decide) (OkN.cons OkN.int OkN.nil))
  | late n => exact OkN.tup (OkN.cons (OkN.str fun c hc => by revert c hc; decide) (OkN.cons OkN.int OkN.nil))
  | off n => exact OkN.tup (OkN.cons (OkN.str fun c hc => by revert c hc; decide) (OkN.cons OkN.int OkN.nil))
  | lost n => exact OkN.tup (OkN.cons (OkN.str fun c hc => by revert c hc; decide) (OkN.cons OkN.int OkN.nil))
theorem log_ok {L : List Lg} (h : ∀ l ∈ L, lgOk l) : okD (.lst (L.map lgD)) = true := (OkN.lst (n := 1) (OkN.map fun l hl => lg_ok (h l hl))).ok
theorem okD_tup2 {a b : D} {n : Nat} (ha : OkN n a) (hb : OkN n b) (hn : n + 1 ≤ 64 := by decide) : okD (.tup [a, b]) = true := (OkN.tup (OkN.cons ha (OkN.cons hb OkN.nil))).ok hn
theorem okN_str {m : Nat} {s : List Nat} (h : okT m s = true) {n : Nat} : OkN n (.str s) := OkN.str fun c hc => by have := okC_asc (okT_all h c hc); omega
theorem okN_rows {ss : List (List Nat)} (h : rowsOk ss) {n : Nat} : OkN (n + 1) (.lst (ss.map D.str)) := OkN.strs fun s hs c hc => by have := okC_asc (okT_all (h.1 s hs) c hc); omega
theorem view_ok {R : Ru} {k : Nat} {x : As} (h : AsOk R k x) : rowsOk (viewR x) ∧ okT 12 (viewK x) = true := by
  unfold viewR viewK
  cases e : x.shown with
  | none => exact ⟨rowsOk_nil, rfl⟩
  | some s => exact h.so s e
theorem lg_len (L : List Lg) : (L.map lgD).length = L.length := List.length_map _
/-- the three words -/
inductive V3 where | no | fr | ol
def V3.sign : V3 → List Nat
  | .no => [110, 111, 116, 104, 105, 110, 103]
  | .fr => [102, 114, 101, 115, 104]
  | .ol => [111, 108, 100]
def v3 (x : As) : V3 := match x.shown with
  | none => .no
  | some s => if freshA x s = true then .fr else .ol
theorem viewW_v3 (x : As) : viewW x = (v3 x).sign := by
  unfold viewW v3
  cases x.shown with
  | none => rfl
  | some s =>
    show (if freshA x s = true then _ else _) = (if freshA x s = true then V3.fr else V3.ol).sign
    by_cases h : freshA x s = true
    · rw [if_pos h, if_pos h]
      rfl
    · rw [if_neg h, if_neg h]
      rfl
/-- the word ahead, and what stands behind the number -/
def lgW : Lg → List Nat
  | .asked _ _ => [97, 115, 107, 101, 100]
  | .came _ => [99, 97, 109, 101]
  | .late _ => [108, 97, 116, 101]
  | .off _ => [111, 102, 102]
  | .lost _ => [108, 111, 115, 116]
theorem lg_word (l : Lg) : ∃ r, lgD l = .tup (.str (lgW l) :: r) := by cases l <;> exact ⟨_, rfl⟩


/-! ### deeds -/
def wPut : List Nat := [112, 117, 116]
def wKey : List Nat := [107, 101, 121]
def wRub : List Nat := [114, 117, 98]
def wTick : List Nat := [116, 105, 99, 107]
def wAgain : List Nat := [97, 103, 97, 105, 110]
def wAdd' : List Nat := [97, 100, 100]
def wRem' : List Nat := [114, 101, 109, 111, 118, 101]
/-- a deed as it is handed in -/
inductive Ra where
  | nil
  | one (w : List Nat)
  | txt (w t : List Nat)
  | num (w : List Nat) (i : Int)
def raD : Ra → D
  | .nil => .tup []
  | .one w => .tup [.str w]
  | .txt w t => .tup [.str w, .str t]
  | .num w i => .tup [.str w, .int i]
def Ra.fit : Ra → Prop
  | .txt w t => w ≠ wTick ∧ t.length ≤ 1000
  | .num w _ => w = wTick
  | _ => True
/-- why it is refused -/
def lookR : Ra → Option Xw
  | .nil => some .ask
  | .one w => if wordN w = some 1 then none else some .ask
  | .txt w t => if wordN w = some 2 then (if okT 40 t = true then none else some .text) else some .ask
  | .num w i => if wordN w = some 2 then (if 0 ≤ i ∧ i ≤ 999 then none else some .number) else some .ask
def looksR (rs : List Ra) : Option Xw := rs.findSome? lookR
inductive Dd where
  | put (t : List Nat)
  | key (t : List Nat)
  | rub
  | tick (i : Int)
  | again
  | add (t : List Nat)
  | rem (t : List Nat)
def Dd.ra : Dd → Ra
  | .put t => .txt wPut t
  | .key t => .txt wKey t
  | .rub => .one wRub
  | .tick i => .num wTick i
  | .again => .one wAgain
  | .add t => .txt wAdd' t
  | .rem t => .txt wRem' t
def Dd.ok : Dd → Prop
  | .put t => okT 40 t = true
  | .key t => okT 40 t = true
  | .tick i => 0 ≤ i ∧ i ≤ 999
  | .add t => okT 40 t = true
  | .rem t => okT 40 t = true
  | _ => True
theorem Dd.fit {d : Dd} (h : d.ok) : d.ra.fit := by
  cases d with
  | put t => exact ⟨by decide, by have := okT_len (show okT 40 t = true from h); omega⟩
  | key t => exact ⟨by decide, by have := okT_len (show okT 40 t = true from h); omega⟩
  | add t => exact ⟨by decide, by have := okT_len (show okT 40 t = true from h); omega⟩
  | rem t => exact ⟨by decide, by have := okT_len (show okT 40 t = true from h); omega⟩
  | tick i => exact rfl
  | rub => trivial
  | again => trivial
theorem Dd.look {d : Dd} (h : d.ok) : lookR d.ra = none := by
  cases d with
  | put t =>
    show (if wordN wPut = some 2 then (if okT 40 t = true then none else some Xw.text) else some .ask) = none
    rw [if_pos (by decide), if_pos (show okT 40 t = true from h)]
  | key t =>
    show (if wordN wKey = some 2 then (if okT 40 t = true then none else some Xw.text) else some .ask) = none
    rw [if_pos (by decide), if_pos (show okT 40 t = true from h)]
  | add t =>
    show (if wordN wAdd' = some 2 then (if okT 40 t = true then none else some Xw.text) else some .ask) = none
    rw [if_pos (by decide), if_pos (show okT 40 t = true from h)]
  | rem t =>
    show (if wordN wRem' = some 2 then (if okT 40 t = true then none else some Xw.text) else some .ask) = none
    rw [if_pos (by decide), if_pos (show okT 40 t = true from h)]
  | tick i =>
    show (if wordN wTick = some 2 then (if 0 ≤ i ∧ i ≤ 999 then none else some Xw.number) else some .ask) = none
    rw [if_pos (by decide), if_pos (show 0 ≤ i ∧ i ≤ 999 from h)]
  | rub =>
    show (if wordN wRub = some 1 then none else some Xw.ask) = none
    rw [if_pos (by decide)]
  | again =>
    show (if wordN wAgain = some 1 then none else some Xw.ask) = none
    rw [if_pos (by decide)]
theorem if_none {c : Prop} [Decidable c] {w : Xw} (h : (if c then none else some w) = none) : c := by
  by_cases z : c
  · exact z
  · rw [if_neg z] at h
    cases h
/-! what a deed does -/
def refF (d : Dd) (ss : List (List Nat)) (x : As) : Option Xw :=
  match d with
  | .put t => if okT 12 t = true then none else some .text
  | .key t => if okT 12 (x.now ++ t) = true then none else some .text
  | .rub => none
  | .tick i => if 0 ≤ i ∧ i ≤ 100 then none else some .number
  | .again => if fold x.now ≠ [] ∧ x.asked = [] then none else some .ask
  | .add r => addF ss r
  | .rem r => if r ∈ ss then none else some .text
def ssF (d : Dd) (ss : List (List Nat)) : List (List Nat) :=
  match d with
  | .add r => ss ++ [r]
  | .rem r => ss.erase r
  | _ => ss
def xF (R : Ru) (d : Dd) (ss : List (List Nat)) (x : As) : As :=
  match d with
  | .put t => putA R t x
  | .key t => putA R (x.now ++ t) x
  | .rub => putA R x.now.dropLast x
  | .tick i => tickA R ss i.toNat x
  | .again => againA R x
  | _ => x
/-- the store and the asker behind a deed, done or refused -/
def nextF (R : Ru) (d : Dd) (s : List (List Nat) × As) : List (List Nat) × As := if refF d s.1 s.2 = none then (ssF d s.1, xF R d s.1 s.2) else s
def doneW (o : Option Xw) : List Nat :=
  match o with
  | none => [100, 111, 110, 101]
  | some .text => [116, 101, 120, 116]
  | some .number => [110, 117, 109, 98, 101, 114]
  | some .ask => [97, 115, 107]
def viewOf (x : As) : D := .tup [.str (viewW x), .str (viewK x), .lst ((viewR x).map D.str)]
/-- what is told of the deeds, one by one -/
def playL (R : Ru) : List Dd → List (List Nat) × As → List D
  | [], _ => []
  | d :: ds, s => .tup [.str (doneW (refF d s.1 s.2)), viewOf (nextF R d s).2] :: playL R ds (nextF R d s)
def playS (R : Ru) : List Dd → List (List Nat) × As → List (List Nat) × As
  | [], s => s
  | d :: ds, s => playS R ds (nextF R d s)
/-! ### how many asks: three for each text typed or asked anew -/
structure Tr (K : Nat) (x : As) : Prop where
  du : x.due = true → x.tries ≤ 2
  tr : x.tries ≤ 3
  se : x.sent ≤ K + x.tries
section
variable {R : Ru} {ss : List (List Nat)} {K : Nat} {x : As}
theorem Tr.mono (h : Tr K x) {L : Nat} (k : K ≤ L) : Tr L x := ⟨h.du, h.tr, by have := h.se; omega⟩
theorem Tr.same {x' : As} (h : Tr K x) (d : x'.due = true → x.due = true) (t : x'.tries = x.tries) (s : x'.sent = x.sent) : Tr K x' := ⟨fun z => by rw [t]; exact h.du (d z), by rw [t]; exact h.tr, by rw [t, s]; exact h.se⟩
theorem Tr.show (h : Tr K x) (rows : List (List Nat)) : Tr K (showA rows x) := h.same (fun z => nomatch z) rfl rfl
theorem Tr.look (h : Tr K x) : Tr K (lookA R x) := by
  unfold lookA
  split
  · exact h.same (fun z => nomatch z) rfl rfl
  · split
    · exact (h.same (x' := { x with ks := useK x.ks _ }) id rfl rfl).show _
    · split
      · exact h
      · split
        · exact h
        · exact h.same id rfl rfl
theorem Tr.ask (h : Tr K x) : Tr K (askA R x) := by
  unfold askA
  split
  · rename_i z
    have hd : x.due = true := by
      unfold goA at z
      cases e : x.due with
      | true => rfl
      | false => rw [e] at z; cases z
    have := h.du hd
    have := h.se
    exact ⟨fun z => (nomatch z), by show x.tries + 1 ≤ 3; omega, by show x.sent + 1 ≤ K + (x.tries + 1); omega⟩
  · exact h
theorem Tr.arrive (h : Tr K x) (f : Fl) : Tr K (arriveA R ss x f) := by
  unfold arriveA
  dsimp only
  split
  · refine Tr.show ?_ _
    exact h.same id rfl rfl
  · refine Tr.look ?_
    exact h.same id rfl rfl
theorem Tr.arrives : ∀ (fs : List Fl) {x : As}, Tr K x → Tr K (fs.foldl (arriveA R ss) x)
  | [], _, h => h
  | f :: fs, _, h => Tr.arrives fs (h.arrive f)
theorem Tr.lost (h : Tr K x) (n : Nat) : Tr K (lostA R x n) := by
  unfold lostA
  split
  · exact h
  · split
    · split
      · exact ⟨fun z => by have : x.tries < 3 := of_decide_eq_true z; show x.tries ≤ 2; omega, h.tr, h.se⟩
      · exact h.same id rfl rfl
    · exact h
theorem Tr.losts : ∀ (ns : List Nat) {x : As}, Tr K x → Tr K (ns.foldl (lostA R) x)
  | [], _, h => h
  | n :: ns, _, h => Tr.losts ns (h.lost n)
theorem Tr.step (h : Tr K x) : Tr K (stepA R ss x) := by
  unfold stepA
  dsimp only
  refine Tr.ask ?_
  unfold tryA
  refine Tr.losts _ (Tr.arrives _ ?_)
  exact h.same id rfl rfl
theorem Tr.ticks : ∀ (n : Nat) {x : As}, Tr K x → Tr K (tickA R ss n x)
  | 0, _, h => h
  | n + 1, _, h => Tr.ticks n h.step
theorem Tr.put (h : Tr K x) (t : List Nat) : Tr (K + 3) (putA R t x) := by
  unfold putA
  dsimp only
  refine Tr.ask (Tr.look ?_)
  have h1 := h.tr
  have h2 := h.se
  split
  · exact ⟨fun _ => Nat.zero_le _, Nat.zero_le _, by show x.sent ≤ K + 3 + 0; omega⟩
  · exact (h.mono (Nat.le_add_right _ _)).same id rfl rfl
theorem Tr.again (h : Tr K x) : Tr (K + 3) (againA R x) := by
  unfold againA
  have h1 := h.tr
  have h2 := h.se
  exact Tr.ask ⟨fun _ => Nat.zero_le _, Nat.zero_le _, by show x.sent ≤ K + 3 + 0; omega⟩
theorem Tr.next {s : List (List Nat) × As} (h : Tr K s.2) (d : Dd) : Tr (K + 3) (nextF R d s).2 := by
  unfold nextF
  split
  · cases d with
    | put t => exact h.put t
    | key t => exact h.put _
    | rub => exact h.put _
    | tick i => exact (Tr.ticks _ h).mono (Nat.le_add_right _ _)
    | again => exact h.again
    | add r => exact h.mono (Nat.le_add_right _ _)
    | rem r => exact h.mono (Nat.le_add_right _ _)
  · exact h.mono (Nat.le_add_right _ _)
theorem play_tr : ∀ (ds : List Dd) {K : Nat} {s : List (List Nat) × As}, Tr K s.2 → Tr (K + 3 * ds.length) (playS R ds s).2
  | [], _, _, h => h
  | d :: ds, K, s, h => (play_tr ds (h.next d)).mono (by rw [List.length_cons]; omega)
theorem tr0 : Tr 0 (as0 0 [] []) := ⟨fun z => (nomatch z), Nat.zero_le _, Nat.le_refl _⟩
end
/-- what always holds -/
structure Pl (R : Ru) (n : Nat) (s : List (List Nat) × As) : Prop where
  ok : AsOk R 0 s.2
  rs : ∀ r ∈ s.1, okT 20 r = true
  le : s.1.length ≤ 12
  tr : Tr n s.2
theorem Pl.mono {R : Ru} {n m : Nat} {s : List (List Nat) × As} (h : Pl R n s) (k : n ≤ m) : Pl R m s := { h with tr := h.tr.mono k }
theorem Pl.se {R : Ru} {n : Nat} {s : List (List Nat) × As} (h : Pl R n s) : s.2.sent ≤ n + 3 := by
  have := h.tr.se
  have := h.tr.tr
  omega
theorem Pl.rows {R : Ru} {n : Nat} {s : List (List Nat) × As} (h : Pl R n s) : rowsOk s.1 := ⟨h.rs, by have := h.le; omega⟩
theorem AsOk.ticks {R : Ru} (hR : RuOk R) {ss : List (List Nat)} (hs : rowsOk ss) : ∀ (n : Nat) {x : As}, AsOk R 0 x → AsOk R 0 (tickA R ss n x)
  | 0, _, h => h
  | n + 1, _, h => AsOk.ticks hR hs n (AsOk.step hR hs h)
theorem Pl.next {R : Ru} (hR : RuOk R) {n : Nat} {s : List (List Nat) × As} (h : Pl R n s) (d : Dd) : Pl R (n + 3) (nextF R d s) := by
  have htr := h.tr.next (R := R) d
  refine ⟨?_, ?_, ?_, htr⟩
  all_goals unfold nextF
  · split
    · rename_i hr
      cases d with
      | put t => exact h.ok.put (if_none hr)
      | key t => exact h.ok.put (if_none hr)
      | rub => exact h.ok.put (ok_init h.ok.now)
      | tick i => exact AsOk.ticks hR h.rows _ h.ok
      | again => exact h.ok.again
      | add r => exact h.ok
      | rem r => exact h.ok
    · exact h.ok
  · split
    · rename_i hr
      cases d with
      | add r =>
        have hr : addF s.1 r = none := hr
        unfold addF at hr
        by_cases z : okT 20 r = true ∧ fold r ≠ [] ∧ r ∉ s.1
        · intro y hy
          rcases List.mem_append.mp hy with z2 | z2
          · exact h.rs y z2
          · rw [List.mem_singleton.mp z2]
            exact z.1
        · rw [if_neg z] at hr
          cases hr
      | rem r => exact fun y hy => h.rs y (List.mem_of_mem_erase hy)
      | put t => exact h.rs
      | key t => exact h.rs
      | rub => exact h.rs
      | tick i => exact h.rs
      | again => exact h.rs
    · exact h.rs
  · split
    · rename_i hr
      cases d with
      | add r =>
        have hr : addF s.1 r = none := hr
        unfold addF at hr
        by_cases z : okT 20 r = true ∧ fold r ≠ [] ∧ r ∉ s.1
        · rw [if_pos z] at hr
          have h12 : s.1.length ≠ 12 := fun e => by
            rw [if_pos e] at hr
            cases hr
          have := h.le
          show (s.1 ++ [r]).length ≤ 12
          rw [List.length_append, List.length_singleton]
          omega
        · rw [if_neg z] at hr
          cases hr
      | rem r => exact Nat.le_trans (List.length_erase_le) h.le
      | put t => exact h.le
      | key t => exact h.le
      | rub => exact h.le
      | tick i => exact h.le
      | again => exact h.le
    · exact h.le
/-! cells -/
/-- the asker's cells move, all others stay -/
structure Fr50 (M M' : Mh) (A A' : Ad) : Prop where
  a : A'.a = A.a
  st : A'.st = A.st
  kp : ∀ b c, M b = some c → b ∉ out A → M' b = some c ∧ b ∉ out A'
theorem Fr50.refl (M : Mh) (A : Ad) : Fr50 M M A A := ⟨rfl, rfl, fun _ _ h n => ⟨h, n⟩⟩
theorem Fr50.trans {M M' M'' : Mh} {A A' A'' : Ad} (h : Fr50 M M' A A') (h2 : Fr50 M' M'' A' A'') : Fr50 M M'' A A'' := ⟨h2.a.trans h.a, h2.st.trans h.st, fun b c hb hn => by
  obtain ⟨h3, h4⟩ := h.kp b c hb hn
  exact h2.kp b c h3 h4⟩
theorem Go.fr50 {M M' : Mh} {A A' : Ad} (h : Go M M' A A') : Fr50 M M' A A' := ⟨by rw [h.sm], by rw [h.sm], fun b c hb hn => h.out hb hn⟩
theorem IsAs.rows {g : G} {M : Mh} {A : Ad} {R : Ru} {ss : List (List Nat)} {x : As} (h : IsAs g M A R ss x) (ss' : List (List Nat)) : IsAs g (upM M A.sr (.lst (ss'.map D.str))) A R ss' x :=
  ⟨by rw [upM_ne (ne_cell' h.ob h.st.rs)]; exact h.ob, by rw [upM_ne (ne_tag h.da h.st.rs (by exact fun z => nomatch z))]; exact h.da, by rw [upM_ne (ne_tag h.df h.st.rs (by exact fun z => nomatch z))]; exact h.df, by rw [upM_ne h.l1]; exact h.lg,
    ⟨by rw [upM_ne (ne_cell' h.st.ob h.st.rs)]; exact h.st.ob, upM_same⟩, ⟨by rw [upM_ne (ne_cell' h.rd.ob h.st.rs)]; exact h.rd.ob, by rw [upM_ne fun z => h.l3 z.symm]; exact h.rd.us⟩,
    by rw [upM_ne (ne_cell' h.sh h.st.rs)]; exact h.sh, h.d1, h.l1, h.l2, h.l3⟩
theorem fr_rows {M : Mh} {A : Ad} {c : Cell} : Fr50 M (upM M A.sr c) A A := ⟨rfl, rfl, fun b c hb hn => ⟨by rw [upM_ne (fun z => hn (by rw [z]; exact List.mem_cons_of_mem _ List.mem_cons_self))]; exact hb, hn⟩⟩
/-! the promises -/
def ds_look_deed (g : G) : DSp := fun xs M Q E => ∃ r : Ra, xs = [raD r] ∧ r.fit ∧ (lookR r = none → Q .non M) ∧ ∀ w, lookR r = some w → E (w.cls g) M
abbrev sp_look_deed (g : G) : Sp := lift 1 (ds_look_deed g)
def ds_look_deeds (g : G) : DSp := fun xs M Q E => ∃ (x : D) (rs : List Ra), xs = [x] ∧ isL M x (rs.map raD) ∧ rs.length ≤ 1000 ∧ (∀ r ∈ rs, r.fit) ∧ (looksR rs = none → Q .non M) ∧ ∀ w, looksR rs = some w → E (w.cls g) M
abbrev sp_look_deeds (g : G) : Sp := lift 1 (ds_look_deeds g)
def ds_do (g : G) : DSp := fun xs M Q E => ∃ (A : Ad) (R : Ru) (ss : List (List Nat)) (x : As) (d : Dd), xs = [.ref A.st, .ref A.a, raD d.ra] ∧ d.ok ∧ IsAs g M A R ss x ∧ RuOk R ∧ Pl R 3000 (ss, x) ∧
  (refF d ss x = none → ∀ M' A', IsAs g M' A' R (ssF d ss) (xF R d ss x) → Fr50 M M' A A' → Q .non M') ∧ ∀ w, refF d ss x = some w → E (w.cls g) M
abbrev sp_do (g : G) : Sp := lift 3 (ds_do g)
def ds_word_of (g : G) : DSp := fun xs M Q E => ∃ (A : Ad) (R : Ru) (ss : List (List Nat)) (x : As) (d : Dd), xs = [.ref A.st, .ref A.a, raD d.ra] ∧ d.ok ∧ IsAs g M A R ss x ∧ RuOk R ∧ Pl R 3000 (ss, x) ∧
  ∀ M' A', IsAs g M' A' R (nextF R d (ss, x)).1 (nextF R d (ss, x)).2 → Fr50 M M' A A' → Q (.str (doneW (refF d ss x))) M'
abbrev sp_word_of (g : G) : Sp := lift 3 (ds_word_of g)
/-- delays, a shelf, rules that may be -/
structure RuIn (dl : List (Option Int)) (most : Nat) (term : Int) (m p k t : Int) : Prop where
  dl : rdOk dl = true
  sh : shOk most term
  mo : 1 ≤ m ∧ m ≤ 6
  ru : ruGood m p k t
def ruOf (dl : List (Option Int)) (most : Nat) (term : Int) (m p k t : Int) : Ru := ⟨dl, most, term, m.toNat, p, k, t⟩
def ds_played (g : G) : DSp := fun xs M Q E => ∃ (xd xs' xr xq : D) (rs : List Ra), xs = [xd, xs', xr, xq] ∧ isL M xq (rs.map raD) ∧ rs.length ≤ 1000 ∧ (∀ r ∈ rs, r.fit) ∧ (∀ w, looksR rs = some w → E (w.cls g) M) ∧
  (looksR rs = none → (∃ dl : List (Option Int), isL M xd (dl.map dvD) ∧ dl.length ≤ 1000 ∧ rdOk dl = false ∧ ∀ M', KnM M M' → E g.cN M') ∨
    ∃ (dl : List (Option Int)) (most : Nat) (term m p k t : Int) (ds : List Dd), isL M xd (dl.map dvD) ∧ xs' = .tup [.int (most : Int), .int term] ∧ xr = .tup [.int m, .int p, .int k, .int t] ∧ RuIn dl most term m p k t ∧ rs = ds.map Dd.ra ∧ (∀ d ∈ ds, d.ok) ∧ ds.length ≤ 33 ∧
      ∀ M', KnM M M' → Q (.tup [.lst (playL (ruOf dl most term m p k t) ds ([], as0 0 [] [])), .lst ((playS (ruOf dl most term m p k t) ds ([], as0 0 [] [])).2.log.map lgD)]) M')
abbrev sp_played (g : G) : Sp := lift 4 (ds_played g)
/-- how often each word stands in a log -/
def wordL : Lg → List Nat
  | .asked _ _ => [97, 115, 107, 101, 100]
  | .came _ => [99, 97, 109, 101]
  | .late _ => [108, 97, 116, 101]
  | .off _ => [111, 102, 102]
  | .lost _ => [108, 111, 115, 116]
def cntD (ws : List (List Nat)) (z : List Nat) : D := .tup [.str z, .int (ws.count z : Nat)]
def ds_counts (g : G) : DSp := fun xs M Q _ => ∃ (x : D) (l : List Lg), xs = [x] ∧ isL M x (l.map lgD) ∧ l.length ≤ 1000 ∧
  ∀ zs : List (List Nat), zs.Nodup → (∀ k, k ∈ zs ↔ k ∈ l.map wordL) → zs.Pairwise (· ≤ ·) → Q (.lst (zs.map (cntD (l.map wordL)))) M
abbrev sp_counts (g : G) : Sp := lift 1 (ds_counts g)
abbrev nm_look_deed : List Str := ["deed"]
def t_look_deed (g : G) (W : WX) : TS := (tSeq (tIfS (tOr (tTest (tOp (rEqA g.K) (tCB (rLenA g.K) (tCons (tVar 0) tNil)) (tC (.int 0)))) (tOr (tTest (tOp (rNinW g.a_WORDS) (tOp (rIx g.K) (tVar 0) (tC (.int 0))) (tC (.ref g.a_WORDS)))) (tTest (tOp (rNeA g.K) (tCB (rLenA g.K) (tCons (tVar 0) tNil)) (tOp (rIxW g.a_WORDS) (tC (.ref g.a_WORDS)) (tOp (rIx g.K) (tVar 0) (tC (.int 0)))))))) (tRaiseC g.cA W) tNext) (tIfS (tTest (tOp (rEqA g.K) (tOp (rIx g.K) (tVar 0) (tC (.int 0))) (tC (.str (S [116, 105, 99, 107]))))) (tIfS (tNot (tTest (tChain (rLeA) (rLeA) (tC (.int 0)) (tOp (rIx g.K) (tVar 0) (tC (.int 1))) (tC (.int 999))))) (tRaiseC g.cN W) tNext) (tIfS (tTest (tOp (rEqA g.K) (tCB (rLenA g.K) (tCons (tVar 0) tNil)) (tC (.int 2)))) (tDrop (tCallS (sp_look_text g) (WE W) (tCons (tOp (rIx g.K) (tVar 0) (tC (.int 1))) (tCons (tC (.int 40)) tNil)))) tNext)))
abbrev nm_look_deeds : List Str := ["deeds", "deed"]
def t_look_deeds (g : G) (W : WX) : TS := (tFor (iList g.K (tVar 0)) (gName 1) (tDrop (tCallS (sp_look_deed g) (WE W) (tCons (tVar 1) tNil))))
abbrev nm_do : List Str := ["store", "asker", "deed", "word"]
def t_do (g : G) (W : WX) : TS := (tSeq (tAsg (tOp (rIx g.K) (tVar 2) (tC (.int 0))) (gName 3)) (tIfS (tTest (tOp (rEqA g.K) (tVar 3) (tC (.str (S [112, 117, 116]))))) (tDrop (tMethS g.cK "put" (sp_Asker_put g) (WE W) (tVar 1) (tCons (tOp (rIx g.K) (tVar 2) (tC (.int 1))) tNil))) (tIfS (tTest (tOp (rEqA g.K) (tVar 3) (tC (.str (S [107, 101, 121]))))) (tDrop (tMethS g.cK "key" (sp_Asker_key g) (WE W) (tVar 1) (tCons (tOp (rIx g.K) (tVar 2) (tC (.int 1))) tNil))) (tIfS (tTest (tOp (rEqA g.K) (tVar 3) (tC (.str (S [114, 117, 98]))))) (tDrop (tMethS g.cK "rub" (sp_Asker_rub g) (WE W) (tVar 1) tNil)) (tIfS (tTest (tOp (rEqA g.K) (tVar 3) (tC (.str (S [116, 105, 99, 107]))))) (tDrop (tMethS g.cK "tick" (sp_Asker_tick g) (WE W) (tVar 1) (tCons (tOp (rIx g.K) (tVar 2) (tC (.int 1))) tNil))) (tIfS (tTest (tOp (rEqA g.K) (tVar 3) (tC (.str (S [97, 103, 97, 105, 110]))))) (tDrop (tMethS g.cK "again" (sp_Asker_again g) (WE W) (tVar 1) tNil)) (tIfS (tTest (tOp (rEqA g.K) (tVar 3) (tC (.str (S [97, 100, 100]))))) (tDrop (tMethS g.cS "add" (sp_Store_add g) (WE W) (tVar 0) (tCons (tOp (rIx g.K) (tVar 2) (tC (.int 1))) tNil))) (tDrop (tMethS g.cS "remove" (sp_Store_remove g) (WE W) (tVar 0) (tCons (tOp (rIx g.K) (tVar 2) (tC (.int 1))) tNil))))))))))
abbrev nm_word_of : List Str := ["store", "asker", "deed", "word"]
def t_word_of (g : G) (W : WX) : TS := (tSeq (tAsg (tC (.str (S [100, 111, 110, 101]))) (gName 3)) (tSeq (tTryM g.K W [(.ref g.cT, (tAsg (tC (.str (S [116, 101, 120, 116]))) (gName 3))), (.ref g.cN, (tAsg (tC (.str (S [110, 117, 109, 98, 101, 114]))) (gName 3))), (.ref g.cA, (tAsg (tC (.str (S [97, 115, 107]))) (gName 3)))] (fun W' => (tDrop (tCallS (sp_do g) (WE W') (tCons (tVar 0) (tCons (tVar 1) (tCons (tVar 2) tNil))))))) (tRet (tVar 3))))
abbrev nm_played : List Str := ["delays", "shelf", "rules", "deeds", "store", "asker", "found", "deed"]
def t_played (g : G) (W : WX) : TS := (tSeq (tDrop (tCallS (sp_look_deeds g) (WE W) (tCons (tVar 3) tNil))) (tSeq (tAsg (tMakeS g.cS (sp_Store___init__ g) (WE W) tNil) (gName 4)) (tSeq (tAsg (tMakeS g.cK (sp_Asker___init__ g) (WE W) (tCons (tVar 4) (tCons (tMakeS g.cR (sp_Road___init__ g) (WE W) (tCons (tVar 0) tNil)) (tCons (tMakeS g.cH (sp_Shelf___init__ g) (WE W) (tCons (tOp (rIx g.K) (tVar 1) (tC (.int 0))) (tCons (tOp (rIx g.K) (tVar 1) (tC (.int 1))) tNil))) (tCons (tOp (rIx g.K) (tVar 2) (tC (.int 0))) (tCons (tOp (rIx g.K) (tVar 2) (tC (.int 1))) (tCons (tOp (rIx g.K) (tVar 2) (tC (.int 2))) (tCons (tOp (rIx g.K) (tVar 2) (tC (.int 3))) tNil)))))))) (gName 5)) (tSeq (tAsg (tLc (iList g.K (tVar 3)) (gName 7) tYes (tTup (tCons (tCallS (sp_word_of g) (WE W0) (tCons (tVar 4) (tCons (tVar 5) (tCons (tVar 7) tNil)))) (tCons (tMethS g.cK "view" (sp_Asker_view g) (WE W0) (tVar 5) tNil) tNil))) [7]) (gName 6)) (tRet (tTup (tCons (tVar 6) (tCons (tMethS g.cK "log" (sp_Asker_log g) (WE W) (tVar 5) tNil) tNil))))))))
abbrev nm_counts : List Str := ["log", "words", "line", "word"]
def t_counts (g : G) (W : WX) : TS := (tSeq (tAsg (tLc (iList g.K (tVar 0)) (gName 2) tYes (tOp (rIx g.K) (tVar 2) (tC (.int 0))) [2]) (gName 1)) (tRet (tLc (iList g.K (tSrtSet g.K (tVar 1))) (gName 3) tYes (tTup (tCons (tVar 3) (tCons (tBM g.K "list" (rCntF g.K) (tVar 1) (tCons (tVar 3) tNil)) tNil))) [3])))


theorem br_y {P Q : Prop} {b : Bool} (hb : b = true) (h : P) : (b = true → P) ∧ (b = false → Q) := ⟨fun _ => h, fun z => absurd (hb.symm.trans z) Bool.noConfusion⟩
theorem br_n {P Q : Prop} {b : Bool} (hb : b = false) (h : Q) : (b = true → P) ∧ (b = false → Q) := ⟨fun z => absurd (hb.symm.trans z) Bool.noConfusion, fun _ => h⟩
theorem d_look_deed {g : G} : Keeps 1 nm_look_deed (t_look_deed g) (ds_look_deed g) := by
  rintro W xs M Q E - ⟨r, rfl, hf, q1, q2⟩
  show lS W (t_look_deed g W) [some (raD r)] M _ _
  unfold t_look_deed
  cases r with
  | nil =>
    show lS W _ [some (.tup [])] M _ _
    walk_at "d"
    refine c_len (.inr rfl) ?_
    walk_at "d"
    refine br_y rfl ?_
    walk_at "d"
    exact q2 .ask rfl
  | one w =>
    show lS W _ [some (.tup [.str w])] M _ _
    walk_at "d"
    refine c_len (.inr rfl) ?_
    walk_at "d"
    refine br_n rfl ?_
    walk_at "d"
    refine r_ix (ds := [.str w]) (.inr rfl) (at_nat (j := 0) rfl) ?_
    walk_at "d"
    refine r_ninW ?_
    walk_at "d"
    cases hw : wordN w with
    | none =>
      refine br_y rfl ?_
      walk_at "d"
      refine q2 .ask ?_
      show (if wordN w = some 1 then none else some Xw.ask) = some Xw.ask
      rw [hw] <;> rfl
    | some n =>
      refine br_n rfl ?_
      walk_at "d"
      refine c_len (.inr rfl) ?_
      walk_at "d"
      refine r_ix (ds := [.str w]) (.inr rfl) (at_nat (j := 0) rfl) ?_
      refine r_ixW hw ?_
      walk_at "d"
      refine ⟨fun h => ?_, fun h => ?_⟩
      · have hn : n ≠ 1 := fun z => by rw [z] at h; exact absurd (show false = true from h) Bool.noConfusion
        walk_at "d"
        refine q2 .ask ?_
        show (if wordN w = some 1 then none else some Xw.ask) = some Xw.ask
        rw [hw, if_neg fun z => hn (Option.some.inj z)]
      · have hn : n = 1 := by
          have h : (!decide (((1 : Nat) : Int) = (n : Int))) = false := h
          have := of_decide_eq_true (by simpa using h : decide (((1 : Nat) : Int) = (n : Int)) = true)
          omega
        have hwt : w ≠ wTick := fun z => by
          rw [z, hn] at hw
          exact absurd hw (by decide)
        walk_at "d"
        refine r_ix (ds := [.str w]) (.inr rfl) (at_nat (j := 0) rfl) ?_
        walk_at "d"
        refine br_n (decide_eq_false hwt) ?_
        walk_at "d"
        refine c_len (.inr rfl) ?_
        walk_at "d"
        refine br_n rfl ?_
        walk_at "d"
        refine q1 ?_
        show (if wordN w = some 1 then none else some Xw.ask) = none
        rw [hw, hn, if_pos rfl]
  | txt w t =>
    show lS W _ [some (.tup [.str w, .str t])] M _ _
    obtain ⟨hwt, htl⟩ := hf
    have hx : lookR (.txt w t) = if wordN w = some 2 then (if okT 40 t = true then none else some .text) else some .ask := rfl
    rw [hx] at q1 q2
    walk_at "d"
    refine c_len (.inr rfl) ?_
    walk_at "d"
    refine br_n rfl ?_
    walk_at "d"
    refine r_ix (ds := [.str w, .str t]) (.inr rfl) (at_nat (j := 0) rfl) ?_
    walk_at "d"
    refine r_ninW ?_
    walk_at "d"
    cases hw : wordN w with
    | none =>
      refine br_y rfl ?_
      walk_at "d"
      exact q2 .ask (by rw [hw] <;> rfl)
    | some n =>
      refine br_n rfl ?_
      walk_at "d"
      refine c_len (.inr rfl) ?_
      walk_at "d"
      refine r_ix (ds := [.str w, .str t]) (.inr rfl) (at_nat (j := 0) rfl) ?_
      refine r_ixW hw ?_
      walk_at "d"
      refine ⟨fun h => ?_, fun h => ?_⟩
      · have hn : n ≠ 2 := fun z => by rw [z] at h; exact absurd (show false = true from h) Bool.noConfusion
        walk_at "d"
        exact q2 .ask (by rw [hw, if_neg fun z => hn (Option.some.inj z)])
      · have hn : n = 2 := by
          have h : (!decide (((2 : Nat) : Int) = (n : Int))) = false := h
          have := of_decide_eq_true (by simpa using h : decide (((2 : Nat) : Int) = (n : Int)) = true)
          omega
        rw [hw, hn, if_pos rfl] at q1 q2
        walk_at "d"
        refine r_ix (ds := [.str w, .str t]) (.inr rfl) (at_nat (j := 0) rfl) ?_
        walk_at "d"
        refine br_n (decide_eq_false hwt) ?_
        walk_at "d"
        refine c_len (.inr rfl) ?_
        walk_at "d"
        refine br_y rfl ?_
        walk_at "d"
        refine r_ix (ds := [.str w, .str t]) (.inr rfl) (at_nat (j := 1) rfl) ?_
        walk_at "d"
        refine ⟨t, 40, rfl, htl, fun h2 => ?_, fun h2 => ?_⟩
        · walk_at "d"
          exact q1 (if_pos h2)
        · exact q2 .text (if_neg (by rw [h2]; exact Bool.false_ne_true))
  | num w i =>
    obtain rfl : w = wTick := hf
    show lS W _ [some (.tup [.str wTick, .int i])] M _ _
    have hx : lookR (.num wTick i) = if 0 ≤ i ∧ i ≤ 999 then none else some .number := by
      show (if wordN wTick = some 2 then (if 0 ≤ i ∧ i ≤ 999 then none else some Xw.number) else some .ask) = _
      rw [if_pos (by decide)]
    rw [hx] at q1 q2
    walk_at "d"
    refine c_len (.inr rfl) ?_
    walk_at "d"
    refine br_n rfl ?_
    walk_at "d"
    refine r_ix (ds := [.str wTick, .int i]) (.inr rfl) (at_nat (j := 0) rfl) ?_
    walk_at "d"
    refine r_ninW ?_
    walk_at "d"
    refine br_n (by decide) ?_
    walk_at "d"
    refine c_len (.inr rfl) ?_
    walk_at "d"
    refine r_ix (ds := [.str wTick, .int i]) (.inr rfl) (at_nat (j := 0) rfl) ?_
    refine r_ixW (n := 2) (by decide) ?_
    walk_at "d"
    refine br_n rfl ?_
    walk_at "d"
    refine r_ix (ds := [.str wTick, .int i]) (.inr rfl) (at_nat (j := 0) rfl) ?_
    walk_at "d"
    refine br_y (by decide) ?_
    walk_at "d"
    refine r_ix (ds := [.str wTick, .int i]) (.inr rfl) (at_nat (j := 1) rfl) ?_
    walk_at "d"
    refine ⟨fun h => ?_, fun h => ?_⟩
    · have h0 := of_decide_eq_true h
      walk_at "d"
      refine ⟨fun h2 => ?_, fun h2 => ?_⟩
      · have h2' : ¬ i ≤ 999 := of_decide_eq_false (by simpa using h2)
        walk_at "d"
        exact q2 .number (if_neg fun z => h2' z.2)
      · have h2' : i ≤ 999 := of_decide_eq_true (by simpa using h2)
        walk_at "d"
        exact q1 (if_pos ⟨h0, h2'⟩)
    · have h0 := of_decide_eq_false h
      walk_at "d"
      exact q2 .number (if_neg fun z => h0 z.1)
theorem looksR_take {rs : List Ra} {i : Nat} (h : looksR (rs.take i) = none) {r : Ra} (hr : rs[i]? = some r) : looksR (rs.take (i + 1)) = lookR r ∧ (∀ w, lookR r = some w → looksR rs = some w) := by
  have e1 : rs.take (i + 1) = rs.take i ++ [r] := by rw [List.take_add_one, hr] <;> rfl
  have e2 : rs = rs.take i ++ r :: rs.drop (i + 1) := by
    conv => lhs; rw [← List.take_append_drop i rs]
    congr 1
    exact (List.drop_eq_getElem?_toList_append (l := rs) (i := i)).trans (by rw [hr] <;> rfl)
  unfold looksR at h ⊢
  constructor
  · rw [e1, List.findSome?_append, h]
    simp
  · intro w hw
    rw [e2, List.findSome?_append, h, List.findSome?_cons, hw]
    rfl
theorem d_look_deeds {g : G} : Keeps 1 nm_look_deeds (t_look_deeds g) (ds_look_deeds g) := by
  rintro W xs M Q E - ⟨x, rs, rfl, hx, hn, hf, q1, q2⟩
  show lS W (t_look_deeds g W) [some x, none] M _ _
  unfold t_look_deeds
  refine s_for ?_
  walk_at "d"
  refine ⟨_, hx, fun i ρ M' => M' = M ∧ (∃ y, ρ = [some x, y]) ∧ looksR (rs.take i) = none, ⟨rfl, ⟨_, rfl⟩, by simp [looksR]⟩, ?_, ?_, ?_⟩
  · rintro i ρ' M' ⟨rfl, _⟩
    exact hx
  · rintro i ρ' M' d hd ⟨rfl, ⟨y, rfl⟩, h⟩
    rw [List.getElem?_map] at hd
    cases hs : rs[i]? with
    | none => rw [hs] at hd; cases hd
    | some r =>
      rw [hs] at hd
      obtain rfl : raD r = d := Option.some.inj hd
      obtain ⟨h1, h2⟩ := looksR_take h hs
      walk_at "d"
      refine ⟨hf r (List.mem_of_getElem? hs), fun ok => ?_, fun w hw => q2 w (h2 w hw)⟩
      walk_at "d"
      rw [h1]
      exact ok
  · rintro ρ' M' ⟨rfl, ⟨y, rfl⟩, h⟩
    rw [List.length_map, List.take_length] at h
    exact q1 h
theorem d_do {g : G} : Keeps 3 nm_do (t_do g) (ds_do g) := by
  rintro W xs M Q E - ⟨A, R, ss, x, d, rfl, hok, h, hR, pl, q1, q2⟩
  show lS W (t_do g W) [some (.ref A.st), some (.ref A.a), some (raD d.ra), none] M _ _
  unfold t_do
  have hat : At g M A R ss 0 x := ⟨h, pl.ok, hR, pl.rows, by have := pl.se; show x.sent ≤ 3300; have : x.sent ≤ 3003 := this; omega⟩
  have hse : x.sent + 100 ≤ 3300 := by have : x.sent ≤ 3003 := pl.se; omega
  have hnl := okT_len pl.ok.now
  cases d with
  | put t =>
    have hl := okT_len (show okT 40 t = true from hok)
    show lS W _ [some (.ref A.st), some (.ref A.a), some (.tup [.str wPut, .str t]), none] M _ _
    walk_at "d"
    refine r_ix (ds := [.str wPut, .str t]) (.inr rfl) (at_nat (j := 0) rfl) ?_
    walk_at "d"
    refine br_y (by decide) ?_
    walk_at "d"
    refine l_askM (by decide) rfl h ?_
    walk_at "d"
    refine r_ix (ds := [.str wPut, .str t]) (.inr rfl) (at_nat (j := 1) rfl) ?_
    walk_at "d"
    refine ⟨A, R, ss, x, t, rfl, hat, by omega, fun ht M' h' go => ?_, fun ht => q2 .text (if_neg (by rw [ht]; exact Bool.false_ne_true))⟩
    walk_at "d"
    exact q1 (if_pos ht) M' A h' go.fr50
  | key t =>
    have hl := okT_len (show okT 40 t = true from hok)
    show lS W _ [some (.ref A.st), some (.ref A.a), some (.tup [.str wKey, .str t]), none] M _ _
    walk_at "d"
    refine r_ix (ds := [.str wKey, .str t]) (.inr rfl) (at_nat (j := 0) rfl) ?_
    walk_at "d"
    refine br_n (by decide) ?_
    walk_at "d"
    refine br_y (by decide) ?_
    walk_at "d"
    refine l_askM (by decide) rfl h ?_
    walk_at "d"
    refine r_ix (ds := [.str wKey, .str t]) (.inr rfl) (at_nat (j := 1) rfl) ?_
    walk_at "d"
    refine ⟨A, R, ss, x, t, rfl, hat, by omega, fun ht M' h' go => ?_, fun ht => q2 .text (if_neg (by rw [ht]; exact Bool.false_ne_true))⟩
    walk_at "d"
    exact q1 (if_pos ht) M' A h' go.fr50
  | rub =>
    show lS W _ [some (.ref A.st), some (.ref A.a), some (.tup [.str wRub]), none] M _ _
    walk_at "d"
    refine r_ix (ds := [.str wRub]) (.inr rfl) (at_nat (j := 0) rfl) ?_
    walk_at "d"
    refine br_n (by decide) ?_
    walk_at "d"
    refine br_n (by decide) ?_
    walk_at "d"
    refine br_y (by decide) ?_
    walk_at "d"
    refine l_askM (by decide) rfl h ?_
    walk_at "d"
    refine ⟨A, R, ss, x, rfl, hat, fun M' h' go => ?_⟩
    walk_at "d"
    exact q1 rfl M' A h' go.fr50
  | tick i =>
    show lS W _ [some (.ref A.st), some (.ref A.a), some (.tup [.str wTick, .int i]), none] M _ _
    walk_at "d"
    refine r_ix (ds := [.str wTick, .int i]) (.inr rfl) (at_nat (j := 0) rfl) ?_
    walk_at "d"
    refine br_n (by decide) ?_
    walk_at "d"
    refine br_n (by decide) ?_
    walk_at "d"
    refine br_n (by decide) ?_
    walk_at "d"
    refine br_y (by decide) ?_
    walk_at "d"
    refine l_askM (by decide) rfl h ?_
    walk_at "d"
    refine r_ix (ds := [.str wTick, .int i]) (.inr rfl) (at_nat (j := 1) rfl) ?_
    walk_at "d"
    refine ⟨A, R, ss, x, i, rfl, hat, hse, fun hi M' A' h' go => ?_, fun hi => q2 .number (if_neg hi)⟩
    walk_at "d"
    exact q1 (if_pos hi) M' A' h' go.fr50
  | again =>
    show lS W _ [some (.ref A.st), some (.ref A.a), some (.tup [.str wAgain]), none] M _ _
    walk_at "d"
    refine r_ix (ds := [.str wAgain]) (.inr rfl) (at_nat (j := 0) rfl) ?_
    walk_at "d"
    refine br_n (by decide) ?_
    walk_at "d"
    refine br_n (by decide) ?_
    walk_at "d"
    refine br_n (by decide) ?_
    walk_at "d"
    refine br_n (by decide) ?_
    walk_at "d"
    refine br_y (by decide) ?_
    walk_at "d"
    refine l_askM (by decide) rfl h ?_
    walk_at "d"
    refine ⟨A, R, ss, x, rfl, hat, fun hi M' h' go => ?_, fun hi => q2 .ask (if_neg hi)⟩
    walk_at "d"
    exact q1 (if_pos hi) M' A h' go.fr50
  | add t =>
    have hl := okT_len (show okT 40 t = true from hok)
    show lS W _ [some (.ref A.st), some (.ref A.a), some (.tup [.str wAdd', .str t]), none] M _ _
    walk_at "d"
    refine r_ix (ds := [.str wAdd', .str t]) (.inr rfl) (at_nat (j := 0) rfl) ?_
    walk_at "d"
    refine br_n (by decide) ?_
    walk_at "d"
    refine br_n (by decide) ?_
    walk_at "d"
    refine br_n (by decide) ?_
    walk_at "d"
    refine br_n (by decide) ?_
    walk_at "d"
    refine br_n (by decide) ?_
    walk_at "d"
    refine br_y (by decide) ?_
    walk_at "d"
    refine l_meth ?_
    walk_at "d"
    refine ⟨A.st, _, _, rfl, h.st.ob, by decide, ?_⟩
    walk_at "d"
    refine r_ix (ds := [.str wAdd', .str t]) (.inr rfl) (at_nat (j := 1) rfl) ?_
    walk_at "d"
    refine ⟨A.st, A.sr, ss, t, rfl, by omega, pl.rows.2, h.st, fun ha => ?_, fun w hw => q2 w hw⟩
    walk_at "d"
    exact q1 ha _ A (h.rows _) fr_rows
  | rem t =>
    have hl := okT_len (show okT 40 t = true from hok)
    show lS W _ [some (.ref A.st), some (.ref A.a), some (.tup [.str wRem', .str t]), none] M _ _
    walk_at "d"
    refine r_ix (ds := [.str wRem', .str t]) (.inr rfl) (at_nat (j := 0) rfl) ?_
    walk_at "d"
    refine br_n (by decide) ?_
    walk_at "d"
    refine br_n (by decide) ?_
    walk_at "d"
    refine br_n (by decide) ?_
    walk_at "d"
    refine br_n (by decide) ?_
    walk_at "d"
    refine br_n (by decide) ?_
    walk_at "d"
    refine br_n (by decide) ?_
    walk_at "d"
    refine l_meth ?_
    walk_at "d"
    refine ⟨A.st, _, _, rfl, h.st.ob, by decide, ?_⟩
    walk_at "d"
    refine r_ix (ds := [.str wRem', .str t]) (.inr rfl) (at_nat (j := 1) rfl) ?_
    walk_at "d"
    refine ⟨A.st, A.sr, ss, t, rfl, h.st, fun ha => ?_, fun hw => q2 .text (if_neg hw)⟩
    walk_at "d"
    exact q1 (if_pos ha) _ A (h.rows _) fr_rows
/-- each is of its own class -/
structure XM (g : G) : Prop where
  sT : PySem.W.exmOne g.K (.ref g.cT) (.ref g.cT) = some true
  sN : PySem.W.exmOne g.K (.ref g.cN) (.ref g.cN) = some true
  sA : PySem.W.exmOne g.K (.ref g.cA) (.ref g.cA) = some true
theorem exm_no {K : PySem.W.Frag} {c d : Addr} (h : PySem.W.kitOne K (.ref d) (.ref c) = some false) (e : ExcC K c) : PySem.W.exmOne K (.ref d) (.ref c) = some false := by
  unfold PySem.W.exmOne
  rw [if_pos (by rw [e.hs]; exact beq_self_eq_true _)]
  unfold PySem.W.kitOne at h
  by_cases z : (Value.ref d == Value.ref c) = true
  · rw [if_pos z] at h
    cases h
  · rw [if_neg z] at h
    exact h
theorem d_word_of {g : G} (hx : XF g) (xm : XM g) : Keeps 3 nm_word_of (t_word_of g) (ds_word_of g) := by
  rintro W xs M Q E - ⟨A, R, ss, x, d, rfl, hok, h, hR, pl, q⟩
  show lS W (t_word_of g W) [some (.ref A.st), some (.ref A.a), some (raD d.ra), none] M _ _
  unfold t_word_of
  walk_at "d"
  refine s_tryM fun W' => ?_
  walk_at "d"
  refine ⟨A, R, ss, x, d, rfl, hok, h, hR, pl, fun hr M' A' h' fr => ?_, fun w hw => ?_⟩
  · walk_at "d"
    have q := q M' A'
    rw [hr] at q
    unfold nextF at q
    rw [if_pos hr] at q
    exact q h' fr
  · have q := q M A
    rw [hw] at q
    unfold nextF at q
    rw [if_neg (by rw [hw]; exact fun z => nomatch z)] at q
    have q := q h (Fr50.refl M A)
    cases w with
    | text =>
      refine ⟨true, xm.sT, fun _ => ?_, fun z => nomatch z⟩
      walk_at "d"
      exact q
    | number =>
      refine ⟨false, exm_no hx.kNT hx.eT, fun z => (nomatch z), fun _ => ⟨true, xm.sN, fun _ => ?_, fun z => nomatch z⟩⟩
      walk_at "d"
      exact q
    | ask =>
      refine ⟨false, exm_no hx.kAT hx.eT, fun z => (nomatch z), fun _ => ⟨false, exm_no hx.kAN hx.eN, fun z => (nomatch z), fun _ => ⟨true, xm.sA, fun _ => ?_, fun z => nomatch z⟩⟩⟩
      walk_at "d"
      exact q
theorem nodup_len' : ∀ {a b : List (List Nat)}, a.Nodup → (∀ k ∈ a, k ∈ b) → a.length ≤ b.length
  | [], _, _, _ => Nat.zero_le _
  | x :: xs, b, hn, h => by
    obtain ⟨h1, h2⟩ := List.nodup_cons.mp hn
    have hx := h x List.mem_cons_self
    have ih := nodup_len' (b := b.erase x) h2 fun k hk => (List.mem_erase_of_ne (fun e => h1 (by rw [← e]; exact hk))).mpr (h k (List.mem_cons_of_mem _ hk))
    have hl := List.length_erase_of_mem hx
    have := List.length_pos_of_mem hx
    rw [List.length_cons]
    omega
theorem cnt_strs {ws : List (List Nat)} {z : List Nat} : ((ws.map D.str).countP fun e => eqF e (.str z)) = ws.count z := by
  rw [List.countP_map]
  unfold List.count
  refine List.countP_congr fun x _ => ?_
  exact Iff.rfl
theorem d_counts {g : G} : Keeps 1 nm_counts (t_counts g) (ds_counts g) := by
  rintro W xs M Q E - ⟨x, l, rfl, hx, hl, q⟩
  show lS W (t_counts g W) [some x, none, none, none] M _ _
  unfold t_counts
  walk_at "d"
  refine l_lcP (wip_name (by decide)) ?_
  walk_at "d"
  refine ⟨_, hx, fun d => match d with | .tup (w :: _) => some w | _ => none, by rw [List.length_map]; omega, fun M' k => hx.kn k, ?_, ?_⟩
  · intro d hd M' k
    obtain ⟨e, he, rfl⟩ := List.mem_map.mp hd
    walk_at "d"
    cases e <;> exact r_ix (.inr rfl) (at_nat (j := 0) rfl) ⟨rfl, rfl⟩
  have ef : ((l.map lgD).filterMap fun d => match d with | .tup (w :: _) => some w | _ => none) = (l.map wordL).map D.str := by
    clear q hx hl
    induction l with
    | nil => rfl
    | cons e l ih =>
      rw [List.map_cons, List.filterMap_cons, List.map_cons, List.map_cons]
      cases e <;> exact congrArg (_ :: ·) ih
  rw [ef]
  walk_at "d"
  refine l_lcP (wip_name (by decide)) ?_
  walk_at "d"
  refine l_sortSet ?_
  walk_at "d"
  refine ⟨_, isL_lst, by rw [List.length_map]; exact hl, fun zs h1 h2 h3 => ?_⟩
  have hzl : zs.length ≤ 1000 := by
    have := nodup_len' h1 fun k hk => (h2 k).mp hk
    rw [List.length_map] at this
    omega
  refine ⟨_, isL_lst, fun d => match d with | .str z => some (cntD (l.map wordL) z) | _ => none, by rw [List.length_map]; omega, fun M' k => isL_lst, ?_, ?_⟩
  · intro d hd M' k
    obtain ⟨z, hz, rfl⟩ := mem_strs hd
    walk_at "d"
    refine l_bmL ?_
    walk_at "d"
    refine ⟨⟨_, isL_lst⟩, ?_⟩
    walk_at "d"
    refine m_count isL_lst rfl (all_strs _) ?_
    walk_at "d"
    rw [cnt_strs]
    rfl
  · have eg : ((zs.map D.str).filterMap fun d => match d with | .str z => some (cntD (l.map wordL) z) | _ => none) = zs.map (cntD (l.map wordL)) := by
      clear q hx hl h1 h2 h3 hzl
      induction zs with
      | nil => rfl
      | cons z zs ih =>
        rw [List.map_cons, List.filterMap_cons, List.map_cons]
        exact congrArg (_ :: ·) ih
    rw [eg]
    walk_at "d"
    exact q zs h1 h2 h3
theorem kn_up {M : Mh} {a : Addr} {c : Cell} (h : M a = none) : KnM M (upM M a c) := fun b d hb => up_keep hb h
/-- an asker over a road and a shelf of its own -/
theorem l_mkAsk {g : G} {W : WX} {X : XD} {ρ : En} {M : Mh} {Q : D → Mh → Prop} {i : Nat} {st sr : Addr} {td tm tt t1 t2 t3 t4 : TE} {dl : List (Option Int)} {most : Nat} {term m p k t : Int} (hρ : ρ[i]? = some (some (.ref st))) (hst : IsSt g M st sr [])
    (hr : RuIn dl most term m p k t) (ed : ∀ Q' : D → Mh → Prop, (∀ x, isL M x (dl.map dvD) → Q' x M) → lE W td ρ M Q' X)
    (em : ∀ (M' : Mh) (Q' : D → Mh → Prop), Q' (.int (most : Int)) M' → lE W tm ρ M' Q' X) (et : ∀ (M' : Mh) (Q' : D → Mh → Prop), Q' (.int term) M' → lE W tt ρ M' Q' X)
    (e1 : ∀ (M' : Mh) (Q' : D → Mh → Prop), Q' (.int m) M' → lE W t1 ρ M' Q' X) (e2 : ∀ (M' : Mh) (Q' : D → Mh → Prop), Q' (.int p) M' → lE W t2 ρ M' Q' X)
    (e3 : ∀ (M' : Mh) (Q' : D → Mh → Prop), Q' (.int k) M' → lE W t3 ρ M' Q' X) (e4 : ∀ (M' : Mh) (Q' : D → Mh → Prop), Q' (.int t) M' → lE W t4 ρ M' Q' X)
    (q : ∀ A M', A.st = st → A.sr = sr → IsAs g M' A (ruOf dl most term m p k t) [] (as0 0 [] []) → KnM M M' → (∀ b c, M b = some c → b ≠ st → b ≠ sr → b ∉ out A) → Q (.ref A.a) M') :
    lE W (tMakeS g.cK (sp_Asker___init__ g) (WE W) (tCons (tVar i) (tCons (tMakeS g.cR (sp_Road___init__ g) (WE W) (tCons td tNil)) (tCons (tMakeS g.cH (sp_Shelf___init__ g) (WE W) (tCons tm (tCons tt tNil))) (tCons t1 (tCons t2 (tCons t3 (tCons t4 tNil)))))))) ρ M Q X := by
  have hdl := hr.dl
  have hdl8 : dl ≠ [] ∧ dl.length ≤ 8 := by
    unfold rdOk at hdl
    simp only [Bool.and_eq_true, decide_eq_true_eq] at hdl
    exact ⟨fun z => by rw [z] at hdl; simp at hdl, hdl.1.2⟩
  refine l_make (a_cons (l_var hρ (a_cons (l_make (a_cons (ed _ fun x hx => a_nil ⟨rfl, fun rd hrd => ?_⟩))))))
  refine ⟨rd, x, dl, rfl, hx.kn (kn_up hrd), by omega, upM_same, fun _ u hu hur => ⟨rfl, ?_⟩, fun z => absurd (hdl.symm.trans z) (by exact fun z => nomatch z)⟩
  have hu9 : M u = none := by rw [upM_ne hur] at hu; exact hu
  rw [upM_swap2 (ne_sym hur)]
  have rd10 : IsRd g (upM (upM M u (.lst [])) rd (rdC g dl 0 u)) rd u dl 0 [] := ⟨upM_same, by rw [upM_ne hur, upM_same]; rfl⟩
  have kp10 : ∀ b c, M b = some c → upM (upM M u (.lst [])) rd (rdC g dl 0 u) b = some c := fun b c hb => by rw [upM_ne (ne_cell hb hrd), upM_ne (ne_cell hb hu9)]; exact hb
  generalize upM (upM M u (.lst [])) rd (rdC g dl 0 u) = M10 at rd10 kp10
  have st10 : IsSt g M10 st sr [] := ⟨kp10 _ _ hst.ob, kp10 _ _ hst.rs⟩
  have hsu : sr ≠ u := ne_cell hst.rs hu9
  refine a_cons (l_make (a_cons (em _ _ (a_cons (et _ _ (a_nil ⟨rfl, fun sh hsh => ?_⟩))))))
  refine ⟨sh, (most : Int), term, rfl, upM_same, fun _ => ⟨rfl, ?_⟩, fun z => absurd hr.sh z⟩
  rw [upM_upM, Int.toNat_natCast]
  have sh9 : upM M10 sh (shC g most term []) sh = some (shC g most term []) := upM_same
  have st9 : IsSt g (upM M10 sh (shC g most term [])) st sr [] := ⟨up_keep st10.ob hsh, up_keep st10.rs hsh⟩
  have rd9 : IsRd g (upM M10 sh (shC g most term [])) rd u dl 0 [] := ⟨up_keep rd10.ob hsh, up_keep rd10.us hsh⟩
  have kp9 : ∀ b c, M b = some c → upM M10 sh (shC g most term []) b = some c := fun b c hb => up_keep (kp10 b c hb) hsh
  have hsh0 : ∀ b c, M b = some c → b ≠ sh := fun b c hb => ne_cell (kp10 b c hb) hsh
  generalize upM M10 sh (shC g most term []) = M9 at sh9 st9 rd9 kp9
  refine a_cons (e1 _ _ (a_cons (e2 _ _ (a_cons (e3 _ _ (a_cons (e4 _ _ (a_nil ⟨rfl, fun a ha => ?_⟩))))))))
  have st11 : IsSt g (upM M9 a (.ins g.cK [] [])) st sr [] := ⟨up_keep st9.ob ha, up_keep st9.rs ha⟩
  refine ⟨a, st, sr, rd, u, sh, m, p, k, t, [], dl, 0, [], most, term, [], rfl, upM_same, st11, ⟨up_keep rd9.ob ha, up_keep rd9.us ha⟩, up_keep sh9 ha, hsu, fun _ M11 A hA hnew h11 kp11 => ⟨rfl, ?_⟩, fun z => absurd (show (1 ≤ m ∧ m ≤ 6) ∧ ruGood m p k t from ⟨hr.mo, hr.ru⟩) z⟩
  obtain ⟨rfl, rfl, rfl, rfl, rfl, rfl⟩ := hA
  refine q A M11 rfl rfl h11 (fun b c hb => kp11 b c (up_keep (kp9 b c hb) ha) (ne_cell (kp9 b c hb) ha)) fun b c hb n1 n2 => ?_
  exact out_new (up_keep (kp9 b c hb) ha) hnew.1 hnew.2.1 hnew.2.2 (ne_cell (kp9 b c hb) ha) n1 n2 (ne_cell hb hrd) (ne_cell hb hu9) (hsh0 b c hb)
theorem RuIn.ok {dl : List (Option Int)} {most : Nat} {term m p k t : Int} (h : RuIn dl most term m p k t) : RuOk (ruOf dl most term m p k t) := by
  have hdl := h.dl
  have hdl8 : dl ≠ [] ∧ dl.length ≤ 8 := by
    unfold rdOk at hdl
    simp only [Bool.and_eq_true, decide_eq_true_eq] at hdl
    exact ⟨fun z => by rw [z] at hdl; simp at hdl, hdl.1.2⟩
  have := h.mo
  have := h.sh
  exact ⟨by show 1 ≤ m.toNat; omega, by show m.toNat ≤ 6; omega, by have := h.sh.2.1; show most ≤ 6; omega, hdl8.1, by have := hdl8.2; show dl.length ≤ 1000; omega⟩
theorem as0_ok' (R : Ru) : AsOk R 0 (as0 0 [] []) := ⟨rfl, fun p h => absurd h (by simp [as0]), List.nodup_nil, List.Pairwise.nil, fun p h => absurd h (by simp [as0]), fun p h => absurd h (by simp [as0]), fun p h => absurd h (by simp [as0]), Nat.zero_le _, fun s e => (nomatch e), fun p h => absurd h (by simp [as0]), Nat.le_refl _, Nat.le_refl _⟩
theorem pl0 {R : Ru} : Pl R 0 ([], as0 0 [] []) := ⟨as0_ok' R, fun r hr => absurd hr (by simp), Nat.zero_le _, tr0⟩
theorem play_snoc (R : Ru) : ∀ (ds : List Dd) (d : Dd) (s : List (List Nat) × As), playL R (ds ++ [d]) s = playL R ds s ++ [.tup [.str (doneW (refF d (playS R ds s).1 (playS R ds s).2)), viewOf (nextF R d (playS R ds s)).2]] ∧ playS R (ds ++ [d]) s = nextF R d (playS R ds s)
  | [], d, s => ⟨rfl, rfl⟩
  | e :: ds, d, s => by
    obtain ⟨h1, h2⟩ := play_snoc R ds d (nextF R e s)
    exact ⟨congrArg (_ :: ·) h1, h2⟩
theorem play_len (R : Ru) : ∀ (ds : List Dd) (s : List (List Nat) × As), (playL R ds s).length = ds.length
  | [], _ => rfl
  | d :: ds, s => congrArg (· + 1) (play_len R ds (nextF R d s))
theorem play_pl {R : Ru} (hR : RuOk R) : ∀ (ds : List Dd) {n : Nat} {s : List (List Nat) × As}, Pl R n s → Pl R (n + 3 * ds.length) (playS R ds s)
  | [], _, _, h => h
  | d :: ds, n, s, h => (play_pl hR ds (h.next hR d)).mono (by rw [List.length_cons]; omega)
theorem s_ix {W : WX} {X : XD} {ρ : En} {K : PySem.W.Frag} {i : Nat} {j : Int} {ds : List D} {d : D} (hρ : ρ[i]? = some (some (.tup ds))) (h : atI ds j = some d) (M' : Mh) (Q' : D → Mh → Prop) (q : Q' d M') : lE W (tOp (rIx K) (tVar i) (tC (.int j))) ρ M' Q' X :=
  l_op (l_var hρ (l_int (r_ix (.inr rfl) h q)))
theorem d_played {g : G} : Keeps 4 nm_played (t_played g) (ds_played g) := by
  rintro W xs M Q E - ⟨xd, xs', xr, xq, rs, rfl, hx, hn, hf, q1, q2⟩
  show lS W (t_played g W) [some xd, some xs', some xr, some xq, none, none, none, none] M _ _
  unfold t_played
  walk_at "d"
  refine ⟨xq, rs, rfl, hx, hn, hf, fun hl => ?_, q1⟩
  have q2 := q2 hl
  walk_at "d"
  refine l_make ?_
  walk_at "d"
  intro st hst
  refine ⟨st, rfl, upM_same, fun sr hsr => ⟨rfl, ?_⟩⟩
  have hra : sr ≠ st := fun z => by rw [z, upM_same] at hsr; cases hsr
  have hr0 : M sr = none := by rw [upM_ne hra] at hsr; exact hsr
  have kp : KnM M (upM (upM (upM M st (.ins g.cS [] [])) sr (.lst [])) st (.ins g.cS ["rows"] [.ref sr])) := fun b c hb => by rw [upM_ne (ne_cell hb hst), upM_ne (ne_cell hb hr0), upM_ne (ne_cell hb hst)]; exact hb
  have st5 : IsSt g (upM (upM (upM M st (.ins g.cS [] [])) sr (.lst [])) st (.ins g.cS ["rows"] [.ref sr])) st sr [] := ⟨upM_same, by rw [upM_ne hra, upM_same]; rfl⟩
  generalize upM (upM (upM M st (.ins g.cS [] [])) sr (.lst [])) st (.ins g.cS ["rows"] [.ref sr]) = M5 at st5 kp
  walk_at "d"
  rcases q2 with ⟨dl, hdl, hdn, hbad, qe⟩ | ⟨dl, most, term, m, p, k, t, ds, hdl, rfl, rfl, hr, rfl, hok, hdsl, q⟩
  · refine l_make ?_
    walk_at "d"
    refine l_make ?_
    walk_at "d"
    intro rd hrd
    refine ⟨rd, xd, dl, rfl, (hdl.kn kp).kn (kn_up hrd), hdn, upM_same, fun z => absurd (hbad.symm.trans z) (by exact fun z => nomatch z), fun _ => qe _ fun b c hb => kn_up hrd b c (kp b c hb)⟩
  · have hmm := hr.mo
    refine l_mkAsk rfl st5 hr (fun Q' q' => l_var rfl (q' _ (hdl.kn kp))) (fun M' Q' q' => s_ix (j := 0) rfl rfl M' Q' q') (fun M' Q' q' => s_ix (j := 1) rfl rfl M' Q' q') (fun M' Q' q' => s_ix (j := 0) rfl rfl M' Q' q') (fun M' Q' q' => s_ix (j := 1) rfl rfl M' Q' q') (fun M' Q' q' => s_ix (j := 2) rfl rfl M' Q' q') (fun M' Q' q' => s_ix (j := 3) rfl rfl M' Q' q') ?_
    rintro A M6 rfl rfl h6 kp6 hout
    have hR := hr.ok
    generalize ruOf dl most term m p k t = R at h6 hR q
    have kpo : ∀ b c, M b = some c → M6 b = some c ∧ b ∉ out A := fun b c hb => ⟨kp6 b c (kp b c hb), hout b c (kp b c hb) (ne_cell hb hst) (ne_cell hb hr0)⟩
    walk_at "d"
    refine l_frz (l_lc (wip_name (by decide)) ?_)
    walk_at "d"
    have hxo : ∀ (M' : Mh) (A' : Ad), (∀ b c, M b = some c → M' b = some c ∧ b ∉ out A') → isL M' xq ((ds.map Dd.ra).map raD) := fun M' A' h => hx.kn fun b c hb => (h b c hb).1
    refine ⟨_, hxo M6 A kpo, fun a ha => ?_⟩
    refine ⟨fun i acc M' => ∃ A' : Ad, acc = playL R (ds.take i) ([], as0 0 [] []) ∧ IsAs g M' A' R (playS R (ds.take i) ([], as0 0 [] [])).1 (playS R (ds.take i) ([], as0 0 [] [])).2 ∧ (∀ b c, M b = some c → M' b = some c ∧ b ∉ out A') ∧ M' a = some (.lst acc) ∧ a ∉ out A' ∧ A'.a = A.a ∧ A'.st = A.st,
      ⟨A, rfl, h6.up (h6.fresh ha), fun b c hb => ⟨up_keep (kpo b c hb).1 ha, (kpo b c hb).2⟩, upM_same, h6.fresh ha, rfl, rfl⟩, ?_, ?_, ?_⟩
    · rintro i acc M' ⟨A', rfl, h', ko, ma, na, ea, es⟩
      refine ⟨hxo M' A' ko, ma, ?_⟩
      rw [play_len, List.length_take]
      omega
    · rintro i acc M' d hd ⟨A', rfl, h', ko, ma, na, ea, es⟩
      rw [List.getElem?_map, List.getElem?_map] at hd
      cases hs : ds[i]? with
      | none => rw [hs] at hd; cases hd
      | some dd =>
        rw [hs] at hd
        obtain rfl : raD dd.ra = d := Option.some.inj hd
        have hi := (List.getElem?_eq_some_iff.mp hs).1
        have hdd := hok dd (List.mem_of_getElem? hs)
        have et : ds.take (i + 1) = ds.take i ++ [dd] := by rw [List.take_add_one, hs] <;> rfl
        have pl := (play_pl hR (ds.take i) (pl0 (R := R))).mono (m := 3000) (by rw [List.length_take]; omega)
        obtain ⟨sn1, sn2⟩ := play_snoc R (ds.take i) dd ([], as0 0 [] [])
        rw [← et] at sn1 sn2
        rw [← ea, ← es]
        have pl2 := pl.next hR dd
        generalize playS R (ds.take i) ([], as0 0 [] []) = S0 at h' pl pl2 sn1 sn2
        walk_at "d"
        refine ⟨A', R, S0.1, S0.2, dd, rfl, hdd, h', hR, pl, fun M7 A7 h7 fr => ?_⟩
        rw [← fr.a]
        walk_at "d"
        refine l_view rfl h7 pl2.ok ?_
        walk_at "d"
        have k7 := fr.kp a _ ma na
        refine ⟨k7.1, A7, ?_, ?_, fun b c hb => ?_, upM_same, k7.2, rfl, fr.st⟩
        · rw [sn1]
          rfl
        · rw [sn2]
          exact h7.up k7.2
        · obtain ⟨k1, k2⟩ := ko b c hb
          obtain ⟨k3, k4⟩ := fr.kp b c k1 k2
          refine ⟨?_, k4⟩
          rw [upM_ne (ne_cell (kpo b c hb).1 ha)]
          exact k3
    · rintro acc M' ⟨A', rfl, h', ko, ma, na, ea, es⟩
      have el : ((ds.map Dd.ra).map raD).length = ds.length := by rw [List.length_map, List.length_map]
      rw [el, List.take_length] at h' ma
      refine ⟨a, _, rfl, ma, ?_⟩
      have h8 : IsAs g (deM M' a) A' R (playS R ds ([], as0 0 [] [])).1 (playS R ds ([], as0 0 [] [])).2 := h'.keep fun b hb => deM_ne fun z => na (by rw [← z]; exact hb)
      have k8 : KnM M (deM M' a) := fun b c hb => by
        rw [deM_ne (ne_cell (kpo b c hb).1 ha)]
        exact (ko b c hb).1
      rw [← ea, ← es]
      walk_at "d"
      refine l_log rfl h8 ?_
      walk_at "d"
      exact q _ k8
/-! ### the law's helpers -/
abbrev nm__law_deed : List Str := ["_law_script", "_law_town", "_law_kind"]
def t__law_deed (g : G) (W : WX) : TS := (tSeq (tAsg (tCallS (sp__law_draw g) (WE W) (tCons (tVar 0) (tCons (tVar 1) (tCons (tC (.int 11)) tNil)))) (gName 2)) (tSeq (tIfS (tTest (tOp (rLtA) (tVar 2) (tC (.int 3)))) (tRet (tTup (tCons (tC (.str (S [107, 101, 121]))) (tCons (tCallS (sp__law_pick g) (WE W) (tCons (tVar 0) (tCons (tVar 1) (tCons (tLst (tCons (tC (.str (S [97]))) (tCons (tC (.str (S [98]))) (tCons (tC (.str (S [65]))) (tCons (tC (.str (S [32]))) (tCons (tC (.str (S [99]))) (tCons (tC (.str (S []))) (tCons (tC (.str (S [97, 98]))) tNil)))))))) tNil)))) tNil)))) tNext) (tSeq (tIfS (tTest (tOp (rLtA) (tVar 2) (tC (.int 6)))) (tRet (tTup (tCons (tC (.str (S [116, 105, 99, 107]))) (tCons (tCallS (sp__law_pick g) (WE W) (tCons (tVar 0) (tCons (tVar 1) (tCons (tLst (tCons (tC (.int 0)) (tCons (tC (.int 1)) (tCons (tC (.int 2)) (tCons (tC (.int 5)) (tCons (tC (.int 9)) (tCons (tC (.int 100)) (tCons (tC (.int 101)) (tCons (tC (.int 999)) tNil))))))))) tNil)))) tNil)))) tNext) (tSeq (tIfS (tTest (tOp (rEqA g.K) (tVar 2) (tC (.int 6)))) (tRet (tTup (tCons (tC (.str (S [112, 117, 116]))) (tCons (tCallS (sp__law_pick g) (WE W) (tCons (tVar 0) (tCons (tVar 1) (tCons (tLst (tCons (tCallS (sp__law_query g) (WE W) (tCons (tVar 0) (tCons (tVar 1) tNil))) (tCons (tC (.str (S [97, 98, 99, 97, 98, 99, 97, 98, 99, 97, 98, 99, 97]))) (tCons (tOp (rMulA) (tC (.str (S [120]))) (tC (.int 40))) tNil)))) tNil)))) tNil)))) tNext) (tSeq (tIfS (tTest (tOp (rEqA g.K) (tVar 2) (tC (.int 7)))) (tRet (tCallS (sp__law_pick g) (WE W) (tCons (tVar 0) (tCons (tVar 1) (tCons (tLst (tCons (tTup (tCons (tC (.str (S [114, 117, 98]))) tNil)) (tCons (tTup (tCons (tC (.str (S [97, 103, 97, 105, 110]))) tNil)) tNil))) tNil))))) tNext) (tSeq (tIfS (tTest (tOp (rLtA) (tVar 2) (tC (.int 10)))) (tRet (tTup (tCons (tC (.str (S [97, 100, 100]))) (tCons (tCallS (sp__law_pick g) (WE W) (tCons (tVar 0) (tCons (tVar 1) (tCons (tLst (tCons (tCallS (sp__law_row g) (WE W) (tCons (tVar 0) (tCons (tVar 1) tNil))) (tCons (tC (.str (S [97, 98]))) (tCons (tC (.str (S []))) (tCons (tC (.str (S [32]))) (tCons (tOp (rMulA) (tC (.str (S [120]))) (tC (.int 21))) tNil)))))) tNil)))) tNil)))) tNext) (tRet (tTup (tCons (tC (.str (S [114, 101, 109, 111, 118, 101]))) (tCons (tCallS (sp__law_pick g) (WE W) (tCons (tVar 0) (tCons (tVar 1) (tCons (tLst (tCons (tC (.str (S [97, 98]))) (tCons (tC (.str (S [97]))) (tCons (tC (.str (S [113, 113]))) (tCons (tCallS (sp__law_row g) (WE W) (tCons (tVar 0) (tCons (tVar 1) tNil))) tNil))))) tNil)))) tNil))))))))))


/-! ### the law's helpers -/
def ds__law_deed (g : G) : DSp := fun xs M Q _ => ∃ (ns : List Int) (t : Addr) (n : Nat), xs = [scr g.K ns, .ref t] ∧ n + 1000 < 90000 ∧ Twn M t n ∧ ∀ (d : Dd) M', d.ok → Tw M t (n + 20) M' → Q (raD d.ra) M'
abbrev sp__law_deed (g : G) : Sp := lift 2 (ds__law_deed g)
theorem okT40 {m : Nat} {s : List Nat} (h : okT m s = true) (k : m ≤ 40 := by decide) : okT 40 s = true := okT_mono h k
theorem d__law_deed {g : G} : Keeps 2 nm__law_deed (t__law_deed g) (ds__law_deed g) := by
  rintro W xs M Q E - ⟨ns, t, n, rfl, hn, ht, q⟩
  show lS W (t__law_deed g W) [some (scr g.K ns), some (.ref t), none] M _ _
  unfold t__law_deed
  walk_at "d"
  refine ⟨ns, t, 11, n, rfl, by omega, by omega, ht, fun d M1 hd w1 => ?_⟩
  walk_at "d"
  refine ⟨fun h => ?_, fun h => ?_⟩
  · walk_at "d"
    refine l_lst ?_
    walk_at "d"
    refine ⟨ns, t, .lst (([[97], [98], [65], [32], [99], [], [97, 98]] : List (List Nat)).map D.str), ([[97], [98], [65], [32], [99], [], [97, 98]] : List (List Nat)).map D.str, n + 1, rfl, .inl rfl, by decide, by omega, w1.twn, fun y M2 hy w2 => ?_⟩
    obtain ⟨s, hs, rfl⟩ := mem_strs hy
    have ho : ∀ s ∈ ([[97], [98], [65], [32], [99], [], [97, 98]] : List (List Nat)), okT 40 s = true := by decide
    walk_at "d"
    exact q (.key s) M2 (ho s hs) ((w1.trans w2).mono (by omega))
  walk_at "d"
  refine ⟨fun h => ?_, fun h => ?_⟩
  · walk_at "d"
    refine l_lst ?_
    walk_at "d"
    refine ⟨ns, t, .lst (([0, 1, 2, 5, 9, 100, 101, 999] : List Int).map D.int), ([0, 1, 2, 5, 9, 100, 101, 999] : List Int).map D.int, n + 1, rfl, .inl rfl, by decide, by omega, w1.twn, fun y M2 hy w2 => ?_⟩
    obtain ⟨s, hs, rfl⟩ := List.mem_map.mp hy
    have ho : ∀ s ∈ ([0, 1, 2, 5, 9, 100, 101, 999] : List Int), 0 ≤ s ∧ s ≤ 999 := by decide
    walk_at "d"
    exact q (.tick s) M2 (ho s hs) ((w1.trans w2).mono (by omega))
  walk_at "d"
  refine ⟨fun h => ?_, fun h => ?_⟩
  · walk_at "d"
    refine l_lst ?_
    walk_at "d"
    refine ⟨ns, t, n + 1, rfl, by omega, w1.twn, fun r M2 hr w2 => ?_⟩
    walk_at "d"
    refine r_mulS (a := [120]) (n := 40) (by decide) (by decide) ?_
    walk_at "d"
    refine ⟨ns, t, .lst (([r, [97, 98, 99, 97, 98, 99, 97, 98, 99, 97, 98, 99, 97], List.replicate 40 120] : List (List Nat)).map D.str), ([r, [97, 98, 99, 97, 98, 99, 97, 98, 99, 97, 98, 99, 97], List.replicate 40 120] : List (List Nat)).map D.str, n + 6, rfl, .inl rfl, by simp, by omega, w2.twn, fun y M3 hy w3 => ?_⟩
    obtain ⟨s, hs, rfl⟩ := mem_strs hy
    have ho : okT 40 s = true := by
      simp only [List.mem_cons, List.not_mem_nil, or_false] at hs
      rcases hs with rfl | rfl | rfl
      · exact okT40 hr
      · decide
      · decide
    walk_at "d"
    exact q (.put s) M3 ho ((w1.trans (w2.trans w3)).mono (by omega))
  walk_at "d"
  refine ⟨fun h => ?_, fun h => ?_⟩
  · walk_at "d"
    refine l_lst ?_
    walk_at "d"
    refine ⟨ns, t, _, [.tup [.str wRub], .tup [.str wAgain]], n + 1, rfl, .inl rfl, by simp, by omega, w1.twn, fun y M2 hy w2 => ?_⟩
    simp only [List.mem_cons, List.not_mem_nil, or_false] at hy
    rcases hy with rfl | rfl
    · exact q .rub M2 trivial ((w1.trans w2).mono (by omega))
    · exact q .again M2 trivial ((w1.trans w2).mono (by omega))
  walk_at "d"
  refine ⟨fun h => ?_, fun h => ?_⟩
  · walk_at "d"
    refine l_lst ?_
    walk_at "d"
    refine ⟨ns, t, n + 1, rfl, by omega, w1.twn, fun r M2 hr w2 => ?_⟩
    walk_at "d"
    refine r_mulS (a := [120]) (n := 21) (by decide) (by decide) ?_
    walk_at "d"
    refine ⟨ns, t, .lst (([r, [97, 98], [], [32], List.replicate 21 120] : List (List Nat)).map D.str), ([r, [97, 98], [], [32], List.replicate 21 120] : List (List Nat)).map D.str, n + 8, rfl, .inl rfl, by simp, by omega, w2.twn, fun y M3 hy w3 => ?_⟩
    obtain ⟨s, hs, rfl⟩ := mem_strs hy
    have ho : okT 40 s = true := by
      simp only [List.mem_cons, List.not_mem_nil, or_false] at hs
      rcases hs with rfl | rfl | rfl | rfl | rfl
      · exact okT40 hr.1
      · decide
      · decide
      · decide
      · decide
    walk_at "d"
    exact q (.add s) M3 ho ((w1.trans (w2.trans w3)).mono (by omega))
  · walk_at "d"
    refine l_lst ?_
    walk_at "d"
    refine ⟨ns, t, n + 1, rfl, by omega, w1.twn, fun r M2 hr w2 => ?_⟩
    walk_at "d"
    refine ⟨ns, t, .lst (([[97, 98], [97], [113, 113], r] : List (List Nat)).map D.str), ([[97, 98], [97], [113, 113], r] : List (List Nat)).map D.str, n + 8, rfl, .inl rfl, by simp, by omega, w2.twn, fun y M3 hy w3 => ?_⟩
    obtain ⟨s, hs, rfl⟩ := mem_strs hy
    have ho : okT 40 s = true := by
      simp only [List.mem_cons, List.not_mem_nil, or_false] at hs
      rcases hs with rfl | rfl | rfl | rfl
      · decide
      · decide
      · decide
      · exact okT40 hr.1
    walk_at "d"
    exact q (.rem s) M3 ho ((w1.trans (w2.trans w3)).mono (by omega))


/-! ### the texts of deeds: written, read -/
def rowD : Dd → List Nat
  | .put t => wPut ++ 32 :: t
  | .key t => wKey ++ 32 :: t
  | .rub => wRub
  | .tick i => wTick ++ 32 :: figs i
  | .again => wAgain
  | .add t => wAdd' ++ 32 :: t
  | .rem t => wRem' ++ 32 :: t
def textD (ds : List Dd) : List Nat := TL.joinL [10] (ds.map rowD)
def isFig (c : Nat) : Bool := decide (48 ≤ c) && decide (c ≤ 57)
def numV (cs : List Nat) : Nat := cs.foldl (fun acc c => acc * 10 + (c - 48)) 0
def bodyF (w rest : List Nat) : Option Dd :=
  if w = wTick then (if rest.length ≤ 3 ∧ 1 ≤ rest.length ∧ rest.all isFig = true then some (.tick (numV rest : Nat)) else none) else
  if okT 40 rest = true then (if w = wPut then some (.put rest) else if w = wKey then some (.key rest) else if w = wAdd' then some (.add rest) else if w = wRem' then some (.rem rest) else none) else none
def deedF (row : List Nat) : Option Dd :=
  match findAt [32] row with
  | none => if row = wRub then some .rub else if row = wAgain then some .again else none
  | some p => bodyF (row.take p) (row.drop (p + 1))
def deedsF : List (List Nat) → Option (List Dd)
  | [] => some []
  | r :: rs => match deedF r with
    | none => none
    | some d => match deedsF rs with
      | none => none
      | some ds => some (d :: ds)
def rowsF (s : List Nat) : Option (List Dd) := if s = [] then some [] else deedsF (TL.spl [10] 0 [] s)
def readF (s : List Nat) : Option (List Dd) :=
  match rowsF s with
  | none => none
  | some ds => if textD ds = s then some ds else none
theorem fig_val {c : Nat} (h : isFig c = true) : 48 ≤ c ∧ c ≤ 57 := by
  unfold isFig at h
  simpa using h
theorem numV_small {cs : List Nat} (h : cs.length ≤ 3) (hf : cs.all isFig = true) : numV cs ≤ 999 := by
  have f : ∀ c ∈ cs, 48 ≤ c ∧ c ≤ 57 := fun c hc => fig_val (List.all_eq_true.mp hf c hc)
  rcases cs with _ | ⟨a, _ | ⟨b, _ | ⟨c, _ | ⟨d, r⟩⟩⟩⟩
  · exact Nat.zero_le _
  · have := f a (by simp)
    show (0 * 10 + (a - 48)) ≤ 999
    omega
  · have h1 := f a (by simp)
    have h2 := f b (by simp)
    show ((0 * 10 + (a - 48)) * 10 + (b - 48)) ≤ 999
    omega
  · have h1 := f a (by simp)
    have h2 := f b (by simp)
    have h3 := f c (by simp)
    show (((0 * 10 + (a - 48)) * 10 + (b - 48)) * 10 + (c - 48)) ≤ 999
    omega
  · simp only [List.length_cons] at h
    omega
theorem bodyF_ok {w rest : List Nat} {d : Dd} (h : bodyF w rest = some d) : d.ok := by
  unfold bodyF at h
  by_cases hw : w = wTick
  · rw [if_pos hw] at h
    by_cases hr : rest.length ≤ 3 ∧ 1 ≤ rest.length ∧ rest.all isFig = true
    · rw [if_pos hr] at h
      obtain rfl := Option.some.inj h
      have := numV_small hr.1 hr.2.2
      exact ⟨Int.natCast_nonneg _, by omega⟩
    · rw [if_neg hr] at h
      cases h
  · rw [if_neg hw] at h
    by_cases ho : okT 40 rest = true
    · rw [if_pos ho] at h
      by_cases h1 : w = wPut
      · rw [if_pos h1] at h
        obtain rfl := Option.some.inj h
        exact ho
      · rw [if_neg h1] at h
        by_cases h2 : w = wKey
        · rw [if_pos h2] at h
          obtain rfl := Option.some.inj h
          exact ho
        · rw [if_neg h2] at h
          by_cases h3 : w = wAdd'
          · rw [if_pos h3] at h
            obtain rfl := Option.some.inj h
            exact ho
          · rw [if_neg h3] at h
            by_cases h4 : w = wRem'
            · rw [if_pos h4] at h
              obtain rfl := Option.some.inj h
              exact ho
            · rw [if_neg h4] at h
              cases h
    · rw [if_neg ho] at h
      cases h
theorem deedF_ok {r : List Nat} {d : Dd} (h : deedF r = some d) : d.ok := by
  unfold deedF at h
  cases hf : findAt [32] r with
  | none =>
    rw [hf] at h
    dsimp only at h
    by_cases h1 : r = wRub
    · rw [if_pos h1] at h
      obtain rfl := Option.some.inj h
      trivial
    · rw [if_neg h1] at h
      by_cases h2 : r = wAgain
      · rw [if_pos h2] at h
        obtain rfl := Option.some.inj h
        trivial
      · rw [if_neg h2] at h
        cases h
  | some p =>
    rw [hf] at h
    exact bodyF_ok h
theorem deedsF_ok : ∀ {rs : List (List Nat)} {ds : List Dd}, deedsF rs = some ds → (∀ d ∈ ds, d.ok) ∧ ds.length = rs.length
  | [], ds, h => by
    obtain rfl := Option.some.inj h
    exact ⟨fun d hd => absurd hd (by simp), rfl⟩
  | r :: rs, ds, h => by
    unfold deedsF at h
    cases h1 : deedF r with
    | none => rw [h1] at h; cases h
    | some d =>
      cases h2 : deedsF rs with
      | none => rw [h1, h2] at h; cases h
      | some es =>
        rw [h1, h2] at h
        obtain rfl := Option.some.inj h
        obtain ⟨k1, k2⟩ := deedsF_ok h2
        refine ⟨fun e he => ?_, by rw [List.length_cons, List.length_cons, k2]⟩
        rcases List.mem_cons.mp he with rfl | he
        · exact deedF_ok h1
        · exact k1 e he
theorem rowsF_ok {s : List Nat} {ds : List Dd} (h : rowsF s = some ds) : (∀ d ∈ ds, d.ok) := by
  unfold rowsF at h
  by_cases z : s = []
  · rw [if_pos z] at h
    obtain rfl := Option.some.inj h
    exact fun d hd => absurd hd (by simp)
  · rw [if_neg z] at h
    exact (deedsF_ok h).1
theorem readF_ok {s : List Nat} {ds : List Dd} (h : readF s = some ds) : (∀ d ∈ ds, d.ok) ∧ textD ds = s ∧ rowsF s = some ds := by
  unfold readF at h
  cases h1 : rowsF s with
  | none => rw [h1] at h; cases h
  | some es =>
    rw [h1] at h
    dsimp only at h
    by_cases z : textD es = s
    · rw [if_pos z] at h
      obtain rfl := Option.some.inj h
      exact ⟨rowsF_ok h1, z, rfl⟩
    · rw [if_neg z] at h
      cases h
/-! what was written is read -/
theorem find_blank : ∀ (w rest : List Nat), 32 ∉ w → findAt [32] (w ++ 32 :: rest) = some w.length := by
  intro w rest hw
  unfold findAt
  refine find_some (by rw [List.length_append, List.length_cons]; omega) ?_ fun k hk => ?_
  · unfold isAt
    rw [List.drop_left, decide_eq_true (by rw [List.length_append, List.length_cons]; simp only [List.length_cons, List.length_nil]; omega)]
    rfl
  · unfold isAt
    have hne : ((w ++ 32 :: rest).drop k).take 1 ≠ [32] := fun z => by
      have e : ((w ++ 32 :: rest).drop k).take 1 = [w[k]] := by
        rw [List.drop_append_of_le_length (by omega), List.drop_eq_getElem_cons hk]
        rfl
      rw [e] at z
      have := List.cons.inj z
      exact hw (by rw [← this.1]; exact List.getElem_mem hk)
    show (_ && (((w ++ 32 :: rest).drop k).take 1 == [32])) = false
    rw [beq_eq_false_iff_ne.mpr hne, Bool.and_false]
theorem find_no_blank {w : List Nat} (hw : 32 ∉ w) : findAt [32] w = none := by
  unfold findAt
  refine find_none fun k hk => ?_
  unfold isAt
  have hne : (w.drop k).take 1 ≠ [32] := fun z => by
    have hm : 32 ∈ (w.drop k).take 1 := by rw [z]; exact List.mem_cons_self
    exact hw (List.mem_of_mem_drop (List.mem_of_mem_take hm))
  show (_ && ((w.drop k).take 1 == [32])) = false
  rw [beq_eq_false_iff_ne.mpr hne, Bool.and_false]
theorem deedF_two {w rest : List Nat} (hw : 32 ∉ w) : deedF (w ++ 32 :: rest) = bodyF w rest := by
  unfold deedF
  rw [find_blank w rest hw]
  dsimp only
  rw [List.take_left]
  have : (w ++ 32 :: rest).drop (w.length + 1) = rest := by
    have e : w ++ 32 :: rest = (w ++ [32]) ++ rest := by rw [List.append_assoc]; rfl
    rw [e]
    exact List.drop_left' (by rw [List.length_append]; rfl)
  rw [this]
theorem figs_all : ∀ n : Fin 1000, (figs (n.val : Int)).length ≤ 3 ∧ 1 ≤ (figs (n.val : Int)).length ∧ (figs (n.val : Int)).all isFig = true ∧ numV (figs (n.val : Int)) = n.val := by decide +kernel
theorem figs_ok {i : Int} (h : 0 ≤ i ∧ i ≤ 999) : (figs i).length ≤ 3 ∧ 1 ≤ (figs i).length ∧ (figs i).all isFig = true ∧ ((numV (figs i) : Nat) : Int) = i := by
  obtain ⟨n, rfl⟩ : ∃ n : Nat, i = (n : Int) := ⟨i.toNat, by omega⟩
  obtain ⟨h1, h2, h3, h4⟩ := figs_all ⟨n, by omega⟩
  exact ⟨h1, h2, h3, by rw [h4]⟩
theorem deedF_row {d : Dd} (h : d.ok) : deedF (rowD d) = some d := by
  cases d with
  | put t =>
    show deedF (wPut ++ 32 :: t) = _
    rw [deedF_two (by decide)]
    unfold bodyF
    rw [if_neg (by decide), if_pos (show okT 40 t = true from h), if_pos rfl]
  | key t =>
    show deedF (wKey ++ 32 :: t) = _
    rw [deedF_two (by decide)]
    unfold bodyF
    rw [if_neg (by decide), if_pos (show okT 40 t = true from h), if_neg (by decide), if_pos rfl]
  | add t =>
    show deedF (wAdd' ++ 32 :: t) = _
    rw [deedF_two (by decide)]
    unfold bodyF
    rw [if_neg (by decide), if_pos (show okT 40 t = true from h), if_neg (by decide), if_neg (by decide), if_pos rfl]
  | rem t =>
    show deedF (wRem' ++ 32 :: t) = _
    rw [deedF_two (by decide)]
    unfold bodyF
    rw [if_neg (by decide), if_pos (show okT 40 t = true from h), if_neg (by decide), if_neg (by decide), if_neg (by decide), if_pos rfl]
  | tick i =>
    show deedF (wTick ++ 32 :: figs i) = _
    rw [deedF_two (by decide)]
    obtain ⟨h1, h2, h3, h4⟩ := figs_ok h
    unfold bodyF
    rw [if_pos rfl, if_pos ⟨h1, h2, h3⟩, h4]
  | rub => rfl
  | again => rfl
theorem deedsF_rows : ∀ {ds : List Dd}, (∀ d ∈ ds, d.ok) → deedsF (ds.map rowD) = some ds
  | [], _ => rfl
  | d :: ds, h => by
    show (match deedF (rowD d) with | none => none | some d => match deedsF (ds.map rowD) with | none => none | some ds => some (d :: ds)) = _
    rw [deedF_row (h d List.mem_cons_self), deedsF_rows fun e he => h e (List.mem_cons_of_mem _ he)]
theorem rowD_signs {d : Dd} (h : d.ok) : ∀ c ∈ rowD d, 32 ≤ c ∧ c < 127 := by
  have ok40 : ∀ {t : List Nat}, okT 40 t = true → ∀ c ∈ t, 32 ≤ c ∧ c < 127 := fun ht c hc => by
    have := okT_all ht c hc
    unfold okC at this
    simp only [Bool.and_eq_true, decide_eq_true_eq] at this
    exact this.1
  have two : ∀ {w t : List Nat}, (∀ c ∈ w, 32 ≤ c ∧ c < 127) → (∀ c ∈ t, 32 ≤ c ∧ c < 127) → ∀ c ∈ w ++ 32 :: t, 32 ≤ c ∧ c < 127 := fun hw ht c hc => by
    rcases List.mem_append.mp hc with hc | hc
    · exact hw c hc
    · rcases List.mem_cons.mp hc with rfl | hc
      · decide
      · exact ht c hc
  cases d with
  | put t => exact two (by decide) (ok40 h)
  | key t => exact two (by decide) (ok40 h)
  | add t => exact two (by decide) (ok40 h)
  | rem t => exact two (by decide) (ok40 h)
  | tick i =>
    refine two (by decide) fun c hc => ?_
    have := fig_val (List.all_eq_true.mp (figs_ok h).2.2.1 c hc)
    omega
  | rub => exact (by decide : ∀ c ∈ wRub, 32 ≤ c ∧ c < 127)
  | again => exact (by decide : ∀ c ∈ wAgain, 32 ≤ c ∧ c < 127)
theorem rowD_len {d : Dd} (h : d.ok) : (rowD d).length ≤ 50 ∧ rowD d ≠ [] := by
  have len2 : ∀ {w t : List Nat}, w.length ≤ 9 → t.length ≤ 40 → (w ++ 32 :: t).length ≤ 50 ∧ (w ++ 32 :: t) ≠ [] := fun hw ht => ⟨by rw [List.length_append, List.length_cons]; omega, by simp⟩
  cases d with
  | put t => exact len2 (by decide) (okT_len (show okT 40 t = true from h))
  | key t => exact len2 (by decide) (okT_len (show okT 40 t = true from h))
  | add t => exact len2 (by decide) (okT_len (show okT 40 t = true from h))
  | rem t => exact len2 (by decide) (okT_len (show okT 40 t = true from h))
  | tick i => exact len2 (by decide) (by have := (figs_ok h).1; omega)
  | rub => exact ⟨by decide, by decide⟩
  | again => exact ⟨by decide, by decide⟩
theorem textD_two (d e : Dd) (ds : List Dd) : textD (d :: e :: ds) = rowD d ++ (10 :: textD (e :: ds)) := rfl
theorem textD_ne : ∀ {ds : List Dd}, (∀ d ∈ ds, d.ok) → ds ≠ [] → textD ds ≠ []
  | [], _, h => absurd rfl h
  | [d], h, _ => (rowD_len (h d List.mem_cons_self)).2
  | d :: e :: ds, h, _ => by rw [textD_two]; simp
theorem readF_text {ds : List Dd} (h : ∀ d ∈ ds, d.ok) : readF (textD ds) = some ds := by
  have h1 : rowsF (textD ds) = some ds := by
    unfold rowsF
    by_cases z : ds = []
    · subst z
      rfl
    · rw [if_neg (textD_ne h z)]
      have e : TL.spl [10] 0 [] (textD ds) = ds.map rowD := TL.spl_join (by simpa using z) fun p hp hc => by
        obtain ⟨d, hd, rfl⟩ := List.mem_map.mp hp
        have := (rowD_signs (h d hd) 10 hc).1
        omega
      rw [e]
      exact deedsF_rows h
  unfold readF
  rw [h1]
  exact if_pos rfl
theorem textD_len : ∀ {ds : List Dd}, (∀ d ∈ ds, d.ok) → (textD ds).length ≤ 51 * ds.length
  | [], _ => Nat.le_refl _
  | [d], h => by
    have := (rowD_len (h d List.mem_cons_self)).1
    show (rowD d).length ≤ 51 * 1
    omega
  | d :: e :: ds, h => by
    have h1 := (rowD_len (h d List.mem_cons_self)).1
    have h2 := textD_len (ds := e :: ds) fun o ho => h o (List.mem_cons_of_mem _ ho)
    rw [textD_two, List.length_append, List.length_cons, List.length_cons (a := d)]
    omega
theorem textD_snoc : ∀ (ds : List Dd) (d : Dd), textD (ds ++ [d]) = if ds = [] then rowD d else textD ds ++ 10 :: rowD d
  | [], d => rfl
  | [e], d => rfl
  | e :: o :: ds, d => by
    have ih := textD_snoc (o :: ds) d
    rw [if_neg (by simp)] at ih ⊢
    show textD (e :: o :: (ds ++ [d])) = _
    rw [textD_two, textD_two, show o :: (ds ++ [d]) = (o :: ds) ++ [d] from rfl, ih]
    simp
theorem textD_signs : ∀ {ds : List Dd}, (∀ d ∈ ds, d.ok) → ∀ c ∈ textD ds, c < 127
  | [], _, c, hc => absurd hc (by simp [textD, TL.joinL])
  | [d], h, c, hc => (rowD_signs (h d List.mem_cons_self) c hc).2
  | d :: e :: ds, h, c, hc => by
    rw [textD_two] at hc
    rcases List.mem_append.mp hc with hc | hc
    · exact (rowD_signs (h d List.mem_cons_self) c hc).2
    · rcases List.mem_cons.mp hc with rfl | hc
      · decide
      · exact textD_signs (ds := e :: ds) (fun o ho => h o (List.mem_cons_of_mem _ ho)) c hc
def oddT : List (List Nat) := [[10], [114, 117, 98, 32], [114, 117, 98, 10], [116, 105, 99, 107], [116, 105, 99, 107, 32], [116, 105, 99, 107, 32, 48, 49], [116, 105, 99, 107, 32, 49, 48, 48, 48], [116, 105, 99, 107, 32, 45, 49], [119, 97, 105, 116, 32, 97], [107, 101, 121], [97, 103, 97, 105, 110, 32, 49], [32, 114, 117, 98], [82, 117, 98]]
theorem oddT_no : ∀ s ∈ oddT, readF s = none ∧ s.length ≤ 1000 := by decide +kernel
abbrev nm_row_of : List Str := ["deed", "one"]
def t_row_of (g : G) (W : WX) : TS := (tRet (tBM g.K "str" (rJoin g.K) (tC (.str (S [32]))) (tCons (tLc (iTup g.K (tVar 0)) (gName 1) tYes (tCB (rStrA) (tCons (tVar 1) tNil)) [1]) tNil)))


/-! ### deeds written and read: the promises -/
def ds_row_of (g : G) : DSp := fun xs M Q _ => ∃ d : Dd, xs = [raD d.ra] ∧ d.ok ∧ Q (.str (rowD d)) M
abbrev sp_row_of (g : G) : Sp := lift 1 (ds_row_of g)
def ds_diary_text (g : G) : DSp := fun xs M Q E => ∃ (x : D) (rs : List Ra), xs = [x] ∧ isL M x (rs.map raD) ∧ rs.length ≤ 1000 ∧ (∀ r ∈ rs, r.fit) ∧
  ((∃ ds : List Dd, rs = ds.map Dd.ra ∧ (∀ d ∈ ds, d.ok) ∧ Q (.str (textD ds)) M) ∨ ∃ w, looksR rs = some w ∧ E (w.cls g) M)
abbrev sp_diary_text (g : G) : Sp := lift 1 (ds_diary_text g)
def ds_deed_in (g : G) : DSp := fun xs M Q E => ∃ row : List Nat, xs = [.str row] ∧ row.length ≤ 1000 ∧ (∀ d, deedF row = some d → Q (raD d.ra) M) ∧ (deedF row = none → E g.cT M)
abbrev sp_deed_in (g : G) : Sp := lift 1 (ds_deed_in g)
def ds_read_diary (g : G) : DSp := fun xs M Q E => ∃ s : List Nat, xs = [.str s] ∧ s.length ≤ 900 ∧ (∀ ds, readF s = some ds → ∀ a, M a = none → Q (.ref a) (upM M a (.lst ((ds.map Dd.ra).map raD)))) ∧ (readF s = none → ∀ M', KnM M M' → E g.cT M')
abbrev sp_read_diary (g : G) : Sp := lift 1 (ds_read_diary g)
/-! plain facts -/
theorem hasT_fig (c : Nat) : hasT [c] [48, 49, 50, 51, 52, 53, 54, 55, 56, 57] = isFig c := by
  by_cases h : c < 58
  · have : ∀ c : Fin 58, hasT [c.val] [48, 49, 50, 51, 52, 53, 54, 55, 56, 57] = isFig c.val := by decide +kernel
    exact this ⟨c, h⟩
  · have e1 : isFig c = false := by
      unfold isFig
      rw [decide_eq_false (show ¬ c ≤ 57 by omega), Bool.and_false]
    have e2 : findAt [c] [48, 49, 50, 51, 52, 53, 54, 55, 56, 57] = none := by
      unfold findAt
      refine find_none fun k hk => ?_
      unfold isAt
      have hne : (([48, 49, 50, 51, 52, 53, 54, 55, 56, 57] : List Nat).drop k).take 1 ≠ [c] := fun z => by
        have hm : c ∈ (([48, 49, 50, 51, 52, 53, 54, 55, 56, 57] : List Nat).drop k).take 1 := by rw [z]; exact List.mem_cons_self
        have hm := List.mem_of_mem_drop (List.mem_of_mem_take hm)
        have all : ∀ d ∈ ([48, 49, 50, 51, 52, 53, 54, 55, 56, 57] : List Nat), d < 58 := by decide
        exact h (all c hm)
      show (_ && ((([48, 49, 50, 51, 52, 53, 54, 55, 56, 57] : List Nat).drop k).take 1 == [c])) = false
      rw [beq_eq_false_iff_ne.mpr hne, Bool.and_false]
    unfold hasT
    rw [e1, e2]
    rfl
theorem wordN_cases (w : List Nat) : (wordN w = none ∧ w ≠ wPut ∧ w ≠ wKey ∧ w ≠ wRub ∧ w ≠ wTick ∧ w ≠ wAgain ∧ w ≠ wAdd' ∧ w ≠ wRem') ∨ (wordN w = some 1 ∧ (w = wRub ∨ w = wAgain)) ∨ (wordN w = some 2 ∧ (w = wPut ∨ w = wKey ∨ w = wTick ∨ w = wAdd' ∨ w = wRem')) := by
  by_cases h1 : w = wPut
  · subst h1; exact .inr (.inr ⟨by decide, .inl rfl⟩)
  by_cases h2 : w = wKey
  · subst h2; exact .inr (.inr ⟨by decide, .inr (.inl rfl)⟩)
  by_cases h3 : w = wRub
  · subst h3; exact .inr (.inl ⟨by decide, .inl rfl⟩)
  by_cases h4 : w = wTick
  · subst h4; exact .inr (.inr ⟨by decide, .inr (.inr (.inl rfl))⟩)
  by_cases h5 : w = wAgain
  · subst h5; exact .inr (.inl ⟨by decide, .inr rfl⟩)
  by_cases h6 : w = wAdd'
  · subst h6; exact .inr (.inr ⟨by decide, .inr (.inr (.inr (.inl rfl)))⟩)
  by_cases h7 : w = wRem'
  · subst h7; exact .inr (.inr ⟨by decide, .inr (.inr (.inr (.inr rfl)))⟩)
  refine .inl ⟨?_, h1, h2, h3, h4, h5, h6, h7⟩
  exact (if_neg h1).trans ((if_neg h2).trans ((if_neg h3).trans ((if_neg h4).trans ((if_neg h5).trans ((if_neg h6).trans (if_neg h7))))))
theorem int_figs {cs : List Nat} (h : cs.all isFig = true) (hne : cs ≠ []) (hl : cs.length ≤ 3) : PySem.intText? (S cs) = some ((numV cs : Nat) : Int) := SX.int_S h hne (by omega)
theorem bodyF_no {w rest : List Nat} (h1 : w ≠ wTick) (h2 : w ≠ wPut) (h3 : w ≠ wKey) (h4 : w ≠ wAdd') (h5 : w ≠ wRem') : bodyF w rest = none := by
  unfold bodyF
  rw [if_neg h1, if_neg h2, if_neg h3, if_neg h4, if_neg h5]
  split <;> rfl
def strF : D → Option D
  | .str s => some (.str s)
  | .int i => some (.str (figs i))
  | _ => none
theorem d_row_of {g : G} : Keeps 1 nm_row_of (t_row_of g) (ds_row_of g) := by
  rintro W xs M Q E - ⟨d, rfl, hd, q⟩
  show lS W (t_row_of g W) [some (raD d.ra), none] M _ _
  unfold t_row_of
  have hlen := (rowD_len hd).1
  have go : ∀ (ws : List (List Nat)) (ds : List D), raD d.ra = .tup ds → (∀ F : D → Option D, (∀ s, F (.str s) = some (.str s)) → (∀ i, F (.int i) = some (.str (figs i))) → ds.filterMap F = ws.map D.str) → (∀ e ∈ ds, (∃ s, e = .str s) ∨ ∃ i : Int, e = .int i ∧ 0 ≤ i ∧ i ≤ 999) → ds.length ≤ 2 → (ws.map (·.length)).sum + ws.length * 1 ≤ 1000 → TL.joinL [32] ws = rowD d →
      lS W (tRet (tBM g.K "str" (rJoin g.K) (tC (.str (S [32]))) (tCons (tLc (iTup g.K (tVar 0)) (gName 1) tYes (tCB (rStrA) (tCons (tVar 1) tNil)) [1]) tNil))) [some (raD d.ra), none] M ⟨fun _ M' => Q .non M', Q, fun _ _ => False, fun _ _ => False⟩ (fun c _ M' => E c M') := by
    intro ws ds e1 e2 e3 e4 e5 e6
    rw [e1]
    walk_at "d"
    refine l_lcP (wip_name (by decide)) ?_
    walk_at "d"
    refine ⟨strF, by omega, fun _ _ => trivial, ?_, ?_⟩
    · intro y hy M' _
      rcases e3 y hy with ⟨s, rfl⟩ | ⟨i, rfl, h0, h1⟩
      · walk_at "d"
        refine c_strS ?_
        exact ⟨rfl, rfl⟩
      · walk_at "d"
        refine c_strI (by omega) ?_
        exact ⟨rfl, rfl⟩
    · rw [e2 strF (fun _ => rfl) (fun _ => rfl)]
      walk_at "d"
      refine m_join (ys := ws) (.inl isL_lst) (by show _ ≤ 100000; simp only [List.length_cons, List.length_nil] at *; omega) ?_
      rw [e6]
      exact q
  have two : ∀ (w t : List Nat), rowD d = w ++ 32 :: t → TL.joinL [32] [w, t] = rowD d := fun w t e => e.symm
  cases d with
  | put t => exact go [wPut, t] _ rfl (fun F h1 _ => by simp [h1]) (fun e he => by simp at he; rcases he with rfl | rfl <;> exact .inl ⟨_, rfl⟩) (Nat.le_refl _) (by have := okT_len (show okT 40 t = true from hd); have lw : wPut.length = 3 := rfl; simp; omega) rfl
  | key t => exact go [wKey, t] _ rfl (fun F h1 _ => by simp [h1]) (fun e he => by simp at he; rcases he with rfl | rfl <;> exact .inl ⟨_, rfl⟩) (Nat.le_refl _) (by have := okT_len (show okT 40 t = true from hd); have lw : wKey.length = 3 := rfl; simp; omega) rfl
  | add t => exact go [wAdd', t] _ rfl (fun F h1 _ => by simp [h1]) (fun e he => by simp at he; rcases he with rfl | rfl <;> exact .inl ⟨_, rfl⟩) (Nat.le_refl _) (by have := okT_len (show okT 40 t = true from hd); have lw : wAdd'.length = 3 := rfl; simp; omega) rfl
  | rem t => exact go [wRem', t] _ rfl (fun F h1 _ => by simp [h1]) (fun e he => by simp at he; rcases he with rfl | rfl <;> exact .inl ⟨_, rfl⟩) (Nat.le_refl _) (by have := okT_len (show okT 40 t = true from hd); have lw : wRem'.length = 6 := rfl; simp; omega) rfl
  | tick i => exact go [wTick, figs i] _ rfl (fun F h1 h2 => by simp [h1, h2]) (fun e he => by simp at he; rcases he with rfl | rfl <;> first | exact .inl ⟨_, rfl⟩ | exact .inr ⟨i, rfl, hd.1, hd.2⟩) (Nat.le_refl _) (by have := (figs_ok hd).1; have lw : wTick.length = 4 := rfl; simp; omega) rfl
  | rub => exact go [wRub] _ rfl (fun F h1 _ => by simp [h1]) (fun e he => by simp at he; rcases he with rfl; exact .inl ⟨_, rfl⟩) (by decide) (by decide) rfl
  | again => exact go [wAgain] _ rfl (fun F h1 _ => by simp [h1]) (fun e he => by simp at he; rcases he with rfl; exact .inl ⟨_, rfl⟩) (by decide) (by decide) rfl
abbrev nm_diary_text : List Str := ["deeds", "deed"]
def t_diary_text (g : G) (W : WX) : TS := (tSeq (tDrop (tCallS (sp_look_deeds g) (WE W) (tCons (tVar 0) tNil))) (tRet (tBM g.K "str" (rJoin g.K) (tC (.str (S [10]))) (tCons (tLc (iList g.K (tVar 0)) (gName 1) tYes (tCallS (sp_row_of g) (WE W0) (tCons (tVar 1) tNil)) [1]) tNil))))
abbrev nm_deed_in : List Str := ["row", "place", "word", "rest", "sign"]
def t_deed_in (g : G) (W : WX) : TS := (tSeq (tAsg (tBM g.K "str" (rFind) (tVar 0) (tCons (tC (.str (S [32]))) tNil)) (gName 1)) (tSeq (tAsg (tIf (tTest (tOp (rLtA) (tVar 1) (tC (.int 0)))) (tVar 0) (tSl (rSlA g.K) (tVar 0) tNoPart (tPart (tVar 1)))) (gName 2)) (tSeq (tIfS (tOr (tTest (tOp (rNinW g.a_WORDS) (tVar 2) (tC (.ref g.a_WORDS)))) (tTest (tOp (rNeA g.K) (tOp (rEqA g.K) (tOp (rIxW g.a_WORDS) (tC (.ref g.a_WORDS)) (tVar 2)) (tC (.int 1))) (tOp (rLtA) (tVar 1) (tC (.int 0)))))) (tRaiseC g.cT W) tNext) (tSeq (tIfS (tTest (tOp (rLtA) (tVar 1) (tC (.int 0)))) (tRet (tTup (tCons (tVar 2) tNil))) tNext) (tSeq (tAsg (tSl (rSlA g.K) (tVar 0) (tPart (tOp (rAddA g.K) (tVar 1) (tC (.int 1)))) tNoPart) (gName 3)) (tSeq (tIfS (tTest (tOp (rEqA g.K) (tVar 2) (tC (.str (S [116, 105, 99, 107]))))) (tSeq (tIfS (tOr (tNot (tTest (tChain (rLeA) (rLeA) (tC (.int 1)) (tCB (rLenA g.K) (tCons (tVar 3) tNil)) (tC (.int 3))))) (tNot (tB (tCB (rAll g.K) (tCons (tLc (iStr (tVar 3)) (gName 4) tYes (tOp (rInA g.K) (tVar 4) (tC (.str (S [48, 49, 50, 51, 52, 53, 54, 55, 56, 57])))) [4]) tNil))))) (tRaiseC g.cT W) tNext) (tRet (tTup (tCons (tVar 2) (tCons (tCB (rIntA) (tCons (tVar 3) tNil)) tNil))))) tNext) (tSeq (tDrop (tCallS (sp_look_text g) (WE W) (tCons (tVar 3) (tCons (tC (.int 40)) tNil)))) (tRet (tTup (tCons (tVar 2) (tCons (tVar 3) tNil)))))))))))


def rowF : D → Option D
  | .tup [.str w] => some (.str w)
  | .tup [.str w, .str t] => some (.str (w ++ 32 :: t))
  | .tup [.str w, .int i] => some (.str (w ++ 32 :: figs i))
  | _ => none
theorem rowF_is {d : Dd} (h : d.ok) : rowF (raD d.ra) = some (.str (rowD d)) := by cases d <;> rfl
theorem rowF_map : ∀ {ds : List Dd}, (∀ d ∈ ds, d.ok) → ((ds.map Dd.ra).map raD).filterMap rowF = (ds.map rowD).map D.str
  | [], _ => rfl
  | d :: ds, h => by
    rw [List.map_cons, List.map_cons, List.map_cons, List.map_cons, List.filterMap_cons, rowF_is (h d List.mem_cons_self), rowF_map fun e he => h e (List.mem_cons_of_mem _ he)]
theorem rows_sum : ∀ {ds : List Dd}, (∀ d ∈ ds, d.ok) → ((ds.map rowD).map (·.length)).sum ≤ 50 * ds.length
  | [], _ => Nat.le_refl _
  | d :: ds, h => by
    have h1 := (rowD_len (h d List.mem_cons_self)).1
    have h2 := rows_sum (ds := ds) fun e he => h e (List.mem_cons_of_mem _ he)
    rw [List.map_cons, List.map_cons, List.sum_cons, List.length_cons]
    omega
theorem d_diary_text {g : G} : Keeps 1 nm_diary_text (t_diary_text g) (ds_diary_text g) := by
  rintro W xs M Q E - ⟨x, rs, rfl, hx, hl, hf, hq⟩
  show lS W (t_diary_text g W) [some x, none] M _ _
  unfold t_diary_text
  walk_at "d"
  rcases hq with ⟨ds, rfl, hd, q⟩ | ⟨w, hw, q⟩
  · rw [List.length_map] at hl
    have hlk : looksR (ds.map Dd.ra) = none := by
      unfold looksR
      rw [List.findSome?_eq_none_iff]
      intro r hr
      obtain ⟨d, hd', rfl⟩ := List.mem_map.mp hr
      exact Dd.look (hd d hd')
    refine ⟨x, ds.map Dd.ra, rfl, hx, by rw [List.length_map]; exact hl, hf, fun _ => ?_, fun w hw => (by rw [hlk] at hw; cases hw)⟩
    walk_at "d"
    refine l_lcP (wip_name (by decide)) ?_
    walk_at "d"
    refine ⟨_, hx, rowF, by rw [List.length_map, List.length_map]; omega, fun _ k => hx.kn k, ?_, ?_⟩
    · intro y hy M' _
      obtain ⟨r, hr, rfl⟩ := List.mem_map.mp hy
      obtain ⟨d, hd', rfl⟩ := List.mem_map.mp hr
      walk_at "d"
      exact ⟨hd d hd', rfl, rowF_is (hd d hd')⟩
    · rw [rowF_map hd]
      walk_at "d"
      refine m_join (ys := ds.map rowD) (.inl isL_lst) ?_ q
      have := rows_sum hd
      rw [List.length_map]
      simp only [List.length_cons, List.length_nil]
      omega
  · exact ⟨x, rs, rfl, hx, hl, hf, fun z => (by rw [hw] at z; cases z), fun w' hw' => (by rw [hw] at hw'; cases hw'; exact q)⟩
def figF : D → Option D
  | .str [c] => some (.bl (isFig c))
  | _ => none
theorem figF_map : ∀ cs : List Nat, (cs.map fun c => D.str [c]).filterMap figF = (cs.map isFig).map D.bl
  | [] => rfl
  | c :: cs => congrArg (_ :: ·) (figF_map cs)
theorem not_dec {P : Prop} [Decidable P] (z : (!decide P) = true) : ¬ P := fun h => by rw [decide_eq_true h] at z; cases z
theorem not_dec' {P : Prop} [Decidable P] (z : (!decide P) = false) : P := Decidable.byContradiction fun h => by rw [decide_eq_false h] at z; cases z
theorem d_deed_in {g : G} : Keeps 1 nm_deed_in (t_deed_in g) (ds_deed_in g) := by
  rintro W xs M Q E - ⟨row, rfl, hl, q1, q2⟩
  show lS W (t_deed_in g W) [some (.str row), none, none, none, none] M _ _
  unfold t_deed_in
  unfold deedF at q1 q2
  cases hf : findAt [32] row with
  | none =>
    rw [hf] at q1 q2
    dsimp only at q1 q2
    have hi : findI [32] row = -1 := by unfold findI; rw [hf]
    walk_at "d"
    rw [hi]
    refine br_nt' ?_
    walk_at "d"
    refine r_ninW ?_
    rcases wordN_cases row with ⟨hw, h1, h2, h3, h4, h5, h6, h7⟩ | ⟨hw, hc⟩ | ⟨hw, hc⟩
    · rw [hw]
      refine ⟨_, rfl, br_nt' ?_⟩
      walk_at "d"
      rw [if_neg h3, if_neg h5] at q2
      exact q2 rfl
    · rw [hw]
      refine ⟨_, rfl, br_nf' ?_⟩
      walk_at "d"
      refine r_ixW hw ?_
      walk_at "d"
      refine ⟨fun z => absurd z (by decide), fun _ => ?_⟩
      walk_at "d"
      refine br_nt' ?_
      walk_at "d"
      rcases hc with rfl | rfl
      · exact q1 .rub (if_pos rfl)
      · exact q1 .again ((if_neg (by decide)).trans (if_pos rfl))
    · rw [hw]
      refine ⟨_, rfl, br_nf' ?_⟩
      walk_at "d"
      refine r_ixW hw ?_
      walk_at "d"
      refine ⟨fun _ => ?_, fun z => absurd z (by decide)⟩
      walk_at "d"
      have n1 : row ≠ wRub := fun z => by rw [z] at hw; cases hw
      have n2 : row ≠ wAgain := fun z => by rw [z] at hw; cases hw
      rw [if_neg n1, if_neg n2] at q2
      exact q2 rfl
  | some p =>
    rw [hf] at q1 q2
    dsimp only at q1 q2
    have hi : findI [32] row = (p : Int) := by unfold findI; rw [hf]
    walk_at "d"
    rw [hi]
    refine br_nf' ?_ (decide_eq_false (by omega))
    walk_at "d"
    refine sl_S (by omega) ?_
    rw [cut_to]
    walk_at "d"
    refine r_ninW ?_
    have hpn : decide ((p : Int) < 0) = false := decide_eq_false (by omega)
    rcases wordN_cases (row.take p) with ⟨hw, h1, h2, h3, h4, h5, h6, h7⟩ | ⟨hw, hc⟩ | ⟨hw, hc⟩
    · rw [hw]
      refine ⟨_, rfl, br_nt' ?_⟩
      walk_at "d"
      exact q2 (bodyF_no h4 h1 h2 h6 h7)
    · rw [hw]
      refine ⟨_, rfl, br_nf' ?_⟩
      walk_at "d"
      refine r_ixW hw ?_
      walk_at "d"
      rw [hpn]
      refine ⟨fun _ => ?_, fun z => absurd z (by decide)⟩
      walk_at "d"
      refine q2 ?_
      rcases hc with hc | hc
      · rw [hc]
        exact bodyF_no (by decide) (by decide) (by decide) (by decide) (by decide)
      · rw [hc]
        exact bodyF_no (by decide) (by decide) (by decide) (by decide) (by decide)
    · rw [hw]
      refine ⟨_, rfl, br_nf' ?_⟩
      walk_at "d"
      refine r_ixW hw ?_
      walk_at "d"
      rw [hpn]
      refine ⟨fun z => absurd z (by decide), fun _ => ?_⟩
      walk_at "d"
      refine br_nf' ?_ hpn
      walk_at "d"
      rw [show ((p : Int) + 1) = ((p + 1 : Nat) : Int) from rfl]
      refine sl_S (by omega) ?_
      rw [cut_from]
      have hrl : (row.drop (p + 1)).length ≤ 1000 := by rw [List.length_drop]; omega
      walk_at "d"
      refine ⟨fun ht => ?_, fun ht => ?_⟩
      · have ht : row.take p = wTick := of_decide_eq_true ht
        have hb : bodyF (row.take p) (row.drop (p + 1)) = if (row.drop (p + 1)).length ≤ 3 ∧ 1 ≤ (row.drop (p + 1)).length ∧ (row.drop (p + 1)).all isFig = true then some (.tick (numV (row.drop (p + 1)) : Nat)) else none := by
          unfold bodyF
          rw [if_pos ht]
        rw [hb] at q1 q2
        rw [ht]
        generalize row.drop (p + 1) = rest at q1 q2 hrl
        refine s_cut (fun ρ' M' => ρ' = [some (.str row), some (.int (p : Int)), some (.str wTick), some (.str rest), none] ∧ M' = M ∧ (rest.length ≤ 3 ∧ 1 ≤ rest.length ∧ rest.all isFig = true)) ?_ ?_
        · refine s_if (lT_bool (b := !decide (rest.length ≤ 3 ∧ 1 ≤ rest.length ∧ rest.all isFig = true)) ?_ ⟨fun z => ?_, fun z => ?_⟩)
          · walk_at "d"
            refine ⟨fun z1 => ?_, fun z1 => ?_⟩
            · have z1 : 1 ≤ rest.length := by have := of_decide_eq_true z1; omega
              walk_at "d"
              refine ⟨fun z2 => ?_, fun z2 => ?_⟩
              · have z2 : ¬ rest.length ≤ 3 := by
                  have : decide ((rest.length : Int) ≤ 3) = false := by simpa using z2
                  have := of_decide_eq_false this
                  omega
                rw [decide_eq_false (fun y : rest.length ≤ 3 ∧ 1 ≤ rest.length ∧ rest.all isFig = true => z2 y.1)]
                first | exact ⟨rfl, rfl⟩ | rfl
              · have z2 : rest.length ≤ 3 := by
                  have : decide ((rest.length : Int) ≤ 3) = true := by simpa using z2
                  have := of_decide_eq_true this
                  omega
                walk_at "d"
                refine l_lcP (wip_name (by decide)) ?_
                walk_at "d"
                refine ⟨figF, by rw [List.length_map]; omega, fun _ _ => trivial, ?_, ?_⟩
                · intro y hy M' _
                  obtain ⟨c, hc, rfl⟩ := List.mem_map.mp hy
                  walk_at "d"
                  rw [hasT_fig]
                  first | exact ⟨rfl, rfl⟩ | rfl
                · rw [figF_map]
                  walk_at "d"
                  refine c_all isL_lst ?_
                  have e2 : (rest.map isFig).all id = rest.all isFig := by rw [List.all_map]; rfl
                  rw [e2]
                  walk_at "d"
                  cases hq : rest.all isFig with
                  | true =>
                    rw [decide_eq_true (show rest.length ≤ 3 ∧ 1 ≤ rest.length ∧ true = true from ⟨z2, z1, rfl⟩)]
                    first | exact ⟨rfl, rfl⟩ | rfl
                  | false =>
                    rw [decide_eq_false (fun y : rest.length ≤ 3 ∧ 1 ≤ rest.length ∧ false = true => by cases y.2.2)]
                    first | exact ⟨rfl, rfl⟩ | rfl
            · have z1 : ¬ 1 ≤ rest.length := by have := of_decide_eq_false z1; omega
              rw [decide_eq_false (fun y : rest.length ≤ 3 ∧ 1 ≤ rest.length ∧ rest.all isFig = true => z1 y.2.1)]
              refine ⟨_, rfl, ?_⟩
              refine ⟨fun _ => ?_, fun y => absurd y (by decide)⟩
              first | exact ⟨rfl, rfl⟩ | rfl
          · have z := not_dec z
            walk_at "d"
            exact q2 (if_neg z)
          · have z := not_dec' z
            walk_at "d"
            first | exact ⟨rfl, rfl, z⟩ | exact z
        rintro ρ' M' ⟨rfl, rfl, z⟩
        walk_at "d"
        refine c_intS (int_figs z.2.2 (fun y => by rw [y] at z; exact absurd z.2.1 (by decide)) z.1) (by omega) ?_
        walk_at "d"
        exact q1 (.tick (numV rest : Nat)) (if_pos z)
      · have ht : row.take p ≠ wTick := of_decide_eq_false ht
        walk_at "d"
        refine ⟨row.drop (p + 1), 40, rfl, hrl, fun ho => ?_, fun ho => ?_⟩
        · walk_at "d"
          rcases hc with hc | hc | hc | hc | hc
          · rw [hc] at q1 ⊢
            refine q1 (.put _) ?_
            unfold bodyF
            rw [if_neg (by decide), if_pos ho, if_pos rfl]
          · rw [hc] at q1 ⊢
            refine q1 (.key _) ?_
            unfold bodyF
            rw [if_neg (by decide), if_pos ho, if_neg (by decide), if_pos rfl]
          · exact absurd hc ht
          · rw [hc] at q1 ⊢
            refine q1 (.add _) ?_
            unfold bodyF
            rw [if_neg (by decide), if_pos ho, if_neg (by decide), if_neg (by decide), if_pos rfl]
          · rw [hc] at q1 ⊢
            refine q1 (.rem _) ?_
            unfold bodyF
            rw [if_neg (by decide), if_pos ho, if_neg (by decide), if_neg (by decide), if_neg (by decide), if_pos rfl]
        · refine q2 ?_
          unfold bodyF
          rw [if_neg ht, if_neg (by rw [ho]; exact Bool.false_ne_true)]
abbrev nm_read_diary : List Str := ["text", "found", "row", "deed"]
def t_read_diary (g : G) (W : WX) : TS := (tSeq (tAsg (tIf (tTest (tOp (rNeA g.K) (tVar 0) (tC (.str (S []))))) (tLcX W (iList g.K (tBM g.K "str" (rSplit) (tVar 0) (tCons (tC (.str (S [10]))) tNil))) (gName 2) tYes (fun W' => (tCallS (sp_deed_in g) (WE W') (tCons (tVar 2) tNil))) [2]) (tLst tNil)) (gName 1)) (tSeq (tIfS (tTest (tOp (rNeA g.K) (tBM g.K "str" (rJoin g.K) (tC (.str (S [10]))) (tCons (tLc (iList g.K (tVar 1)) (gName 3) tYes (tCallS (sp_row_of g) (WE W0) (tCons (tVar 3) tNil)) [3]) tNil)) (tVar 0))) (tRaiseC g.cT W) tNext) (tRet (tVar 1))))


theorem spl10 : ∀ (k : Nat) (acc l : List Nat), (∀ p ∈ TL.spl [10] k acc l, p.length ≤ acc.length + l.length) ∧ (TL.spl [10] k acc l).length ≤ l.length + 1
  | k, acc, [] => by
    rw [TL.spl_nil]
    exact ⟨fun p hp => by rw [List.mem_singleton.mp hp]; exact Nat.le_refl _, Nat.le_refl _⟩
  | k + 1, acc, c :: r => by
    have e : TL.spl [10] (k + 1) acc (c :: r) = TL.spl [10] k acc r := rfl
    obtain ⟨h1, h2⟩ := spl10 k acc r
    rw [e]
    exact ⟨fun p hp => by have := h1 p hp; rw [List.length_cons]; omega, by rw [List.length_cons]; omega⟩
  | 0, acc, c :: r => by
    cases h : TL.pre [10] (c :: r) with
    | true =>
      have e : TL.spl [10] 0 acc (c :: r) = acc :: TL.spl [10] 0 [] r := TL.spl_hit (acc := acc) h
      obtain ⟨h1, h2⟩ := spl10 0 [] r
      rw [e]
      refine ⟨fun p hp => ?_, by rw [List.length_cons, List.length_cons]; omega⟩
      rw [List.length_cons]
      rcases List.mem_cons.mp hp with rfl | hp
      · omega
      · have := h1 p hp
        simp only [List.length_nil] at this
        omega
    | false =>
      have e : TL.spl [10] 0 acc (c :: r) = TL.spl [10] 0 (acc ++ [c]) r := TL.spl_miss (acc := acc) h
      obtain ⟨h1, h2⟩ := spl10 0 (acc ++ [c]) r
      rw [e]
      refine ⟨fun p hp => ?_, by rw [List.length_cons]; omega⟩
      have := h1 p hp
      rw [List.length_append] at this
      rw [List.length_cons]
      simp only [List.length_cons, List.length_nil] at this
      omega
theorem deedsF_snoc : ∀ {rs : List (List Nat)} {ds : List Dd} {r : List Nat}, deedsF rs = some ds → deedsF (rs ++ [r]) = match deedF r with | none => none | some d => some (ds ++ [d])
  | [], ds, r, h => by
    obtain rfl := Option.some.inj h
    show (match deedF r with | none => none | some d => some (d :: [])) = _
    cases deedF r <;> rfl
  | q :: rs, ds, r, h => by
    unfold deedsF at h
    cases h1 : deedF q with
    | none => rw [h1] at h; cases h
    | some d =>
      cases h2 : deedsF rs with
      | none => rw [h1, h2] at h; cases h
      | some es =>
        rw [h1, h2] at h
        obtain rfl := Option.some.inj h
        have ih := deedsF_snoc (r := r) h2
        show (match deedF q with | none => none | some d => match deedsF (rs ++ [r]) with | none => none | some ds => some (d :: ds)) = _
        rw [h1, ih]
        cases deedF r <;> rfl
theorem deedsF_bad : ∀ {rs : List (List Nat)} {r : List Nat}, r ∈ rs → deedF r = none → deedsF rs = none
  | q :: rs, r, hm, hr => by
    show (match deedF q with | none => none | some d => match deedsF rs with | none => none | some ds => some (d :: ds)) = none
    rcases List.mem_cons.mp hm with rfl | hm
    · rw [hr]
    · rw [deedsF_bad hm hr]
      cases deedF q <;> rfl
theorem kn_new {M : Mh} {a : Addr} {c : Cell} (h : M a = none) : KnM M (upM M a c) := fun b d hb => up_keep hb h
theorem d_read_diary {g : G} : Keeps 1 nm_read_diary (t_read_diary g) (ds_read_diary g) := by
  rintro W xs M Q E - ⟨s, rfl, hl, q1, q2⟩
  show lS W (t_read_diary g W) [some (.str s), none, none, none] M _ _
  unfold t_read_diary
  obtain ⟨sp1, sp2⟩ := spl10 0 [] s
  refine s_cut (fun ρ' M' => ∃ a ds, ρ' = [some (.str s), some (.ref a), none, none] ∧ M a = none ∧ rowsF s = some ds ∧ M' = upM M a (.lst ((ds.map Dd.ra).map raD))) ?_ ?_
  · refine s_asg (l_if ?_)
    walk_at "d"
    refine ⟨fun z => ?_, fun z => ?_⟩
    · have z : s ≠ [] := by simpa using z
      have er : rowsF s = deedsF (TL.spl [10] 0 [] s) := if_neg z
      refine l_lcX (wip_name (by decide)) (i_list ?_)
      walk_at "d"
      refine m_split (by decide) (by decide) (by omega) ?_
      refine ⟨_, isL_lst, fun a ha => ⟨fun i acc M' => ∃ ds, acc = (ds.map Dd.ra).map raD ∧ deedsF ((TL.spl [10] 0 [] s).take i) = some ds ∧ M' = upM M a (.lst acc), ⟨[], rfl, rfl, rfl⟩, ?_, ?_, ?_⟩⟩
      · rintro i acc M' ⟨ds, rfl, hd, rfl⟩
        have := (deedsF_ok hd).2
        rw [List.length_take] at this
        exact ⟨isL_lst, upM_same, by rw [List.length_map, List.length_map]; omega⟩
      · rintro i acc M' d hd ⟨ds, rfl, hds, rfl⟩
        rw [List.getElem?_map] at hd
        cases hr : (TL.spl [10] 0 [] s)[i]? with
        | none => rw [hr] at hd; cases hd
        | some r =>
          rw [hr] at hd
          obtain rfl := Option.some.inj hd
          have hm := List.mem_of_getElem? hr
          have hrl := sp1 r hm
          simp only [List.length_nil] at hrl
          have et : (TL.spl [10] 0 [] s).take (i + 1) = (TL.spl [10] 0 [] s).take i ++ [r] := by rw [List.take_add_one, hr]; rfl
          walk_at "d"
          refine fun W' => ?_
          walk_at "d"
          refine ⟨by omega, fun o ho => ?_, fun ho => ?_⟩
          · refine ⟨upM_same, ds ++ [o], by simp, ?_, upM_upM⟩
            rw [et, deedsF_snoc hds, ho]
          · refine q2 ?_ _ (kn_new ha)
            unfold readF
            rw [er, deedsF_bad hm ho]
      · rintro acc M' ⟨ds, rfl, hds, rfl⟩
        rw [List.length_map, List.take_length] at hds
        walk_at "d"
        exact ⟨a, ds, rfl, ha, er.trans hds, rfl⟩
    · have z : s = [] := by simpa using z
      refine l_lstM (a_nil ⟨Nat.zero_le _, fun a ha => ?_⟩)
      walk_at "d"
      exact ⟨a, [], rfl, ha, if_pos z, rfl⟩
  rintro ρ' M' ⟨a, ds, rfl, ha, hds, rfl⟩
  have hok := rowsF_ok hds
  have hlen : ds.length ≤ 1000 := by
    unfold rowsF at hds
    by_cases z : s = []
    · rw [if_pos z] at hds
      obtain rfl := Option.some.inj hds
      exact Nat.zero_le _
    · rw [if_neg z] at hds
      have := (deedsF_ok hds).2
      omega
  walk_at "d"
  refine l_lcP (wip_name (by decide)) ?_
  walk_at "d"
  refine ⟨_, isL_ref upM_same, rowF, by rw [List.length_map, List.length_map]; omega, fun _ k => isL_ref (k _ _ upM_same), ?_, ?_⟩
  · intro y hy M' _
    obtain ⟨r, hr, rfl⟩ := List.mem_map.mp hy
    obtain ⟨d, hd', rfl⟩ := List.mem_map.mp hr
    walk_at "d"
    exact ⟨hok d hd', rfl, rowF_is (hok d hd')⟩
  · rw [rowF_map hok]
    walk_at "d"
    refine m_join (ys := ds.map rowD) (.inl isL_lst) ?_ ?_
    · have := rows_sum hok
      rw [List.length_map]
      simp only [List.length_cons, List.length_nil]
      omega
    walk_at "d"
    refine ⟨fun z => ?_, fun z => ?_⟩
    · have z := not_dec z
      walk_at "d"
      refine q2 ?_ _ (kn_new ha)
      unfold readF
      rw [hds]
      exact if_neg z
    · have z := not_dec' z
      walk_at "d"
      refine q1 ds ?_ a ha
      unfold readF
      rw [hds]
      exact if_pos z
/-! ### the law's helpers: promises -/
def ds__law_text (g : G) : DSp := fun xs M Q _ => ∃ (x : D) (ds : List Dd), xs = [x] ∧ isL M x ((ds.map Dd.ra).map raD) ∧ ds.length ≤ 1000 ∧ (∀ d ∈ ds, d.ok) ∧ Q (.str (textD ds)) M
abbrev sp__law_text (g : G) : Sp := lift 1 (ds__law_text g)
abbrev wFound : List Nat := [102, 111, 117, 110, 100]
def ds__law_one (g : G) : DSp := fun xs M Q E => ∃ (k : Int) (v : D), xs = [.int k, v] ∧
  ((k = 0 ∧ ∃ s, v = .str s ∧ s.length ≤ 900 ∧ (∀ ds, readF s = some ds → ∀ a, M a = none → Q (.ref a) (upM M a (.lst ((ds.map Dd.ra).map raD)))) ∧ (readF s = none → ∀ M', KnM M M' → E g.cT M')) ∨
   (k = 1 ∧ ∃ rs : List Ra, isL M v (rs.map raD) ∧ rs.length ≤ 1000 ∧ (∀ r ∈ rs, r.fit) ∧ ((∃ ds : List Dd, rs = ds.map Dd.ra ∧ (∀ d ∈ ds, d.ok) ∧ Q (.str (textD ds)) M) ∨ ∃ w, looksR rs = some w ∧ E (w.cls g) M)) ∨
   ((k = 2 ∨ k = 3) ∧ ∃ rs : List Ra, isL M v (rs.map raD) ∧ rs.length ≤ 1000 ∧ (∀ r ∈ rs, r.fit) ∧ ∃ w, looksR rs = some w ∧ E (w.cls g) M) ∨
   (k = 2 ∧ isL M v [] ∧ ∀ M', KnM M M' → E g.cN M'))
abbrev sp__law_one (g : G) : Sp := lift 2 (ds__law_one g)
def ds__law_told (g : G) : DSp := fun xs M Q _ => ∃ (k : Int) (v : D), xs = [.int k, v] ∧
  ((k = 0 ∧ ∃ s, v = .str s ∧ s.length ≤ 900 ∧ (∀ ds, readF s = some ds → ∀ a, M a = none → Q (.tup [.str wFound, .ref a]) (upM M a (.lst ((ds.map Dd.ra).map raD)))) ∧ (readF s = none → ∀ M', KnM M M' → Q (refD .text) M')) ∨
   (k = 1 ∧ ∃ rs : List Ra, isL M v (rs.map raD) ∧ rs.length ≤ 1000 ∧ (∀ r ∈ rs, r.fit) ∧ ((∃ ds : List Dd, rs = ds.map Dd.ra ∧ (∀ d ∈ ds, d.ok) ∧ Q (.tup [.str wFound, .str (textD ds)]) M) ∨ ∃ w, looksR rs = some w ∧ Q (refD w) M)) ∨
   ((k = 2 ∨ k = 3) ∧ ∃ rs : List Ra, isL M v (rs.map raD) ∧ rs.length ≤ 1000 ∧ (∀ r ∈ rs, r.fit) ∧ ∃ w, looksR rs = some w ∧ Q (refD w) M) ∨
   (k = 2 ∧ isL M v [] ∧ ∀ M', KnM M M' → Q (refD .number) M'))
abbrev sp__law_told (g : G) : Sp := lift 2 (ds__law_told g)
abbrev nm__law_text : List Str := ["_law_deeds", "_law_found", "_law_k"]
def t__law_text (g : G) (W : WX) : TS := (tSeq (tAsg (tC (.str (S []))) (gName 1)) (tSeq (tFor (iRng1 (tCons (tCB (rLenA g.K) (tCons (tVar 0) tNil)) tNil)) (gName 2) (tSeq (tAsg (tOp (rAddA g.K) (tOp (rAddA g.K) (tVar 1) (tIf (tTest (tOp (rGtA) (tVar 2) (tC (.int 0)))) (tC (.str (S [10]))) (tC (.str (S []))))) (tOp (rIx g.K) (tOp (rIx g.K) (tVar 0) (tVar 2)) (tC (.int 0)))) (gName 1)) (tIfS (tTest (tOp (rGtA) (tCB (rLenA g.K) (tCons (tOp (rIx g.K) (tVar 0) (tVar 2)) tNil)) (tC (.int 1)))) (tAsg (tOp (rAddA g.K) (tOp (rAddA g.K) (tVar 1) (tC (.str (S [32])))) (tCB (rStrA) (tCons (tOp (rIx g.K) (tOp (rIx g.K) (tVar 0) (tVar 2)) (tC (.int 1))) tNil))) (gName 1)) tNext))) (tRet (tVar 1))))
abbrev nm__law_one : List Str := ["_law_kind", "_law_given"]
def t__law_one (g : G) (W : WX) : TS := (tSeq (tIfS (tTest (tOp (rLtA) (tVar 0) (tC (.int 2)))) (tRet (tIf (tTest (tOp (rEqA g.K) (tVar 0) (tC (.int 0)))) (tCallS (sp_read_diary g) (WE W) (tCons (tVar 1) tNil)) (tCallS (sp_diary_text g) (WE W) (tCons (tVar 1) tNil)))) tNext) (tRet (tIf (tTest (tOp (rEqA g.K) (tVar 0) (tC (.int 2)))) (tCallS (sp_played g) (WE W) (tCons (tLst (tCons (tC (.int 0)) tNil)) (tCons (tTup (tCons (tC (.int 9)) (tCons (tC (.int 0)) tNil))) (tCons (tTup (tCons (tC (.int 0)) (tCons (tC (.int 10)) (tCons (tC (.int 0)) (tCons (tC (.int 0)) tNil))))) (tCons (tVar 1) tNil))))) (tCallS (sp_played g) (WE W) (tCons (tLst (tCons (tC (.int 1)) tNil)) (tCons (tTup (tCons (tC (.int 1)) (tCons (tC (.int 1)) tNil))) (tCons (tTup (tCons (tC (.int 1)) (tCons (tC (.int 0)) (tCons (tC (.int 1)) (tCons (tC (.int 1)) tNil))))) (tCons (tVar 1) tNil))))))))


theorem Dd.parts {d : Dd} (h : d.ok) : (∃ w, raD d.ra = .tup [.str w] ∧ rowD d = w ∧ w.length ≤ 10) ∨ ∃ w t v, raD d.ra = .tup [.str w, v] ∧ rowD d = w ++ 32 :: t ∧ w.length ≤ 10 ∧ t.length ≤ 40 ∧ (v = .str t ∨ ∃ i : Int, v = .int i ∧ figs i = t ∧ 0 ≤ i ∧ i ≤ 999) := by
  cases d with
  | put t => exact .inr ⟨wPut, t, _, rfl, rfl, by decide, okT_len (show okT 40 t = true from h), .inl rfl⟩
  | key t => exact .inr ⟨wKey, t, _, rfl, rfl, by decide, okT_len (show okT 40 t = true from h), .inl rfl⟩
  | add t => exact .inr ⟨wAdd', t, _, rfl, rfl, by decide, okT_len (show okT 40 t = true from h), .inl rfl⟩
  | rem t => exact .inr ⟨wRem', t, _, rfl, rfl, by decide, okT_len (show okT 40 t = true from h), .inl rfl⟩
  | tick i => exact .inr ⟨wTick, figs i, _, rfl, rfl, by decide, by have := (figs_ok h).1; omega, .inr ⟨i, rfl, rfl, h.1, h.2⟩⟩
  | rub => exact .inl ⟨wRub, rfl, rfl, by decide⟩
  | again => exact .inl ⟨wAgain, rfl, rfl, by decide⟩
theorem d__law_text {g : G} : Keeps 1 nm__law_text (t__law_text g) (ds__law_text g) := by
  rintro W xs M Q E - ⟨x, ds, rfl, hx, hl, hok, q⟩
  show lS W (t__law_text g W) [some x, none, none] M _ _
  unfold t__law_text
  walk_at "d"
  refine s_for ?_
  walk_at "d"
  refine c_len (.inl hx) ?_
  rw [List.length_map, List.length_map]
  walk_at "d"
  refine ⟨by omega, by omega, fun i ρ' M' => ∃ y2, ρ' = [some x, some (.str (textD (ds.take i))), y2] ∧ M' = M, ⟨none, rfl, rfl⟩, fun _ _ _ _ => trivial, ?_, ?_⟩
  · rintro i ρ' M' e he ⟨y2, rfl, rfl⟩
    obtain ⟨hi, rfl⟩ := rng_at he
    have hi : i < ds.length := by omega
    rw [Int.zero_add]
    obtain ⟨d, hd⟩ : ∃ d, ds[i]? = some d := ⟨_, List.getElem?_eq_getElem hi⟩
    have hdo := hok d (List.mem_of_getElem? hd)
    have hat : ((ds.map Dd.ra).map raD)[i]? = some (raD d.ra) := by rw [List.getElem?_map, List.getElem?_map, hd]; rfl
    have htl : (textD (ds.take i)).length ≤ 51000 := by
      have h1 := textD_len (ds := ds.take i) fun o ho => hok o (List.mem_of_mem_take ho)
      rw [List.length_take] at h1
      omega
    have et : ds.take (i + 1) = ds.take i ++ [d] := by rw [List.take_add_one, hd]; rfl
    have es := textD_snoc (ds.take i) d
    rw [← et] at es
    -- what goes ahead
    have ahead : textD (ds.take (i + 1)) = (textD (ds.take i) ++ if 0 < i then [10] else []) ++ rowD d := by
      rw [es]
      by_cases z : i = 0
      · subst z
        rw [List.take_zero, if_pos rfl, if_neg (by omega)]
        rfl
      · have hne : ds.take i ≠ [] := fun y => by
          have := congrArg List.length y
          rw [List.length_take] at this
          simp only [List.length_nil] at this
          omega
        rw [if_neg hne, if_pos (by omega), List.append_assoc]
        rfl
    have hpre : (textD (ds.take i) ++ if 0 < i then [10] else []).length ≤ 51001 := by
      rw [List.length_append]
      by_cases z : 0 < i
      · rw [if_pos z]; simp only [List.length_cons, List.length_nil]; omega
      · rw [if_neg z]; simp only [List.length_nil]; omega
    have hw : ∃ w r, raD d.ra = .tup (.str w :: r) ∧ w.length ≤ 10 ∧ ((r = [] ∧ rowD d = w) ∨ ∃ t v, r = [v] ∧ rowD d = w ++ 32 :: t ∧ t.length ≤ 40 ∧ (v = .str t ∨ ∃ i : Int, v = .int i ∧ figs i = t ∧ 0 ≤ i ∧ i ≤ 999)) := by
      rcases Dd.parts hdo with ⟨w, h1, h2, h3⟩ | ⟨w, t, v, h1, h2, h3, h4, h5⟩
      · exact ⟨w, [], h1, h3, .inl ⟨rfl, h2⟩⟩
      · exact ⟨w, [v], h1, h3, .inr ⟨t, v, rfl, h2, h4, h5⟩⟩
    obtain ⟨w, r, hr, hwl, hcase⟩ := hw
    rw [hr] at hat
    walk_at "d1"
    refine s_cut (fun ρ' M2 => ρ' = [some x, some (.str ((textD (ds.take i) ++ if 0 < i then [10] else []) ++ w)), some (.int (i : Int))] ∧ M2 = M') ?_ ?_
    · refine s_asg (l_op (l_op (l_var rfl (lE_mono (Q := fun d M2 => d = .str (if 0 < i then [10] else []) ∧ M2 = M') ?_ ?_))))
      · walk_at "d"
        refine ⟨fun z => ?_, fun z => ?_⟩
        · walk_at "d"
          rw [if_pos (by have := of_decide_eq_true z; omega)]
          first | exact ⟨rfl, rfl⟩ | rfl
        · walk_at "d"
          rw [if_neg (by have := of_decide_eq_false z; omega)]
          first | exact ⟨rfl, rfl⟩ | rfl
      · rintro d M2 ⟨rfl, rfl⟩
        refine r_addS (by rw [← List.length_append]; omega) ?_
        walk_at "d"
        refine r_ix (.inl hx) (at_nat hat) ?_
        walk_at "d"
        refine r_ix (.inr rfl) (at_nat (j := 0) rfl) ?_
        refine r_addS (by omega) ?_
        walk_at "d"
        first | exact ⟨rfl, rfl⟩ | rfl
    · rintro ρ' M2 ⟨rfl, rfl⟩
      walk_at "d"
      refine r_ix (.inl hx) (at_nat hat) ?_
      walk_at "d"
      refine c_len (.inr rfl) ?_
      walk_at "d"
      rcases hcase with ⟨rfl, hrow⟩ | ⟨t, v, rfl, hrow, htl2, hv⟩
      · refine br_nf' ?_
        walk_at "d"
        refine ⟨some (.int (i : Int)), ?_, rfl⟩
        rw [ahead, hrow]
      · refine br_nt' ?_
        walk_at "d"
        refine r_addS (by rw [List.length_append]; simp only [List.length_cons, List.length_nil]; omega) ?_
        walk_at "d"
        refine r_ix (.inl hx) (at_nat hat) ?_
        walk_at "d"
        refine r_ix (.inr rfl) (at_nat (j := 1) rfl) ?_
        have fin : ((textD (ds.take i) ++ if 0 < i then [10] else []) ++ w ++ [32]) ++ t = textD (ds.take (i + 1)) := by
          rw [ahead, hrow]
          simp
        have hl3 : ((textD (ds.take i) ++ if 0 < i then [10] else []) ++ w ++ [32]).length + t.length ≤ 100000 := by
          rw [List.length_append, List.length_append]
          simp only [List.length_cons, List.length_nil]
          omega
        walk_at "d"
        rcases hv with rfl | ⟨n, rfl, rfl, h0, h9⟩
        · refine c_strS ?_
          refine r_addS hl3 ?_
          walk_at "d"
          refine ⟨some (.int (i : Int)), ?_, rfl⟩
          rw [fin]
        · refine c_strI (by omega) ?_
          refine r_addS hl3 ?_
          walk_at "d"
          refine ⟨some (.int (i : Int)), ?_, rfl⟩
          rw [fin]
  · rintro ρ' M' ⟨y2, rfl, rfl⟩
    rw [rng_len, Int.toNat_natCast, List.take_length]
    walk_at "d"
    exact q
theorem d__law_one {g : G} : Keeps 2 nm__law_one (t__law_one g) (ds__law_one g) := by
  rintro W xs M Q E - ⟨k, v, rfl, h⟩
  show lS W (t__law_one g W) [some (.int k), some v] M _ _
  unfold t__law_one
  rcases h with ⟨rfl, s, rfl, hl, q1, q2⟩ | ⟨rfl, rs, hx, hl, hf, hq⟩ | ⟨hk, rs, hx, hl, hf, w, hw, q⟩ | ⟨rfl, hx, q⟩
  · walk_at "d"
    refine br_nt' ?_
    walk_at "d"
    refine br_nt' ?_
    walk_at "d"
    exact ⟨hl, q1, q2⟩
  · walk_at "d"
    refine br_nt' ?_
    walk_at "d"
    refine br_nf' ?_
    walk_at "d"
    exact ⟨v, rs, rfl, hx, hl, hf, hq⟩
  · rcases hk with rfl | rfl
    · walk_at "d"
      refine br_nf' ?_
      walk_at "d"
      refine br_nt' ?_
      walk_at "d"
      refine l_lst ?_
      walk_at "d"
      exact ⟨_, _, _, _, rs, rfl, hx, hl, hf, fun w' hw' => by rw [hw] at hw'; cases hw'; exact q, fun z => by rw [hw] at z; cases z⟩
    · walk_at "d"
      refine br_nf' ?_
      walk_at "d"
      refine br_nf' ?_
      walk_at "d"
      refine l_lst ?_
      walk_at "d"
      exact ⟨_, _, _, _, rs, rfl, hx, hl, hf, fun w' hw' => by rw [hw] at hw'; cases hw'; exact q, fun z => by rw [hw] at z; cases z⟩
  · walk_at "d"
    refine br_nf' ?_
    walk_at "d"
    refine br_nt' ?_
    walk_at "d"
    refine l_lst ?_
    walk_at "d"
    exact ⟨_, _, _, _, [], rfl, hx, Nat.zero_le _, fun r hr => absurd hr (by simp), fun w' hw' => (by cases hw'), fun _ => .inl ⟨[some 0], isL_lst, by decide, by decide, q⟩⟩
abbrev nm__law_told : List Str := ["_law_kind", "_law_some", "_law_caught", "_law_found", "e"]
def t__law_told (g : G) (W : WX) : TS := (tSeq (tAsg (tC .non) (gName 2)) (tSeq (tAsg (tC .non) (gName 3)) (tSeq (tHold g.K (.ref g.cE) 4 2 (fun W' => (tAsg (tCallS (sp__law_one g) (WE W') (tCons (tVar 0) (tCons (tVar 1) tNil))) (gName 3)))) (tRet (tIf (tTest (tOp (rIsNo) (tVar 2) (tC .non))) (tTup (tCons (tC (.str (S [102, 111, 117, 110, 100]))) (tCons (tVar 3) tNil))) (tCallS (sp__law_refusal g) (WE W) (tCons (tVar 2) tNil)))))))


theorem s_cut' {W : WX} {X : XD} {ρ : En} {M : Mh} {A : DE} {t u : TS} (Mid : En → Mh → Prop) (h : lS W t ρ M { A with nx := Mid } X) (h2 : ∀ ρ' M', Mid ρ' M' → lS W u ρ' M' A X) : lS W t ρ M { A with nx := fun ρ1 M1 => lS W u ρ1 M1 A X } X := fun σ H D s e p px =>
  h σ H D s e ⟨fun σ1 ρ1 H1 M1 q1 s1 t1 e1 => p.nx σ1 ρ1 H1 M1 (h2 ρ1 M1 q1) s1 t1 e1, p.rt, p.bk, p.ct⟩ px
theorem d__law_told {g : G} (hx : XF g) : Keeps 2 nm__law_told (t__law_told g) (ds__law_told g) := by
  rintro W xs M Q E - ⟨k, v, rfl, h⟩
  show lS W (t__law_told g W) [some (.int k), some v, none, none, none] M _ _
  unfold t__law_told
  walk_at "d"
  refine s_hold fun W' => ?_
  have bad : ∀ (w : Xw) M', Q (refD w) M' → PySem.W.exmOne g.K (.ref (w.cls g)) (.ref g.cE) = some true ∧
      ({ nx := fun ρ1 M1 => lS W (tRet (tIf (tTest (tOp (rIsNo) (tVar 2) (tC .non))) (tTup (tCons (tC (.str (S [102, 111, 117, 110, 100]))) (tCons (tVar 3) tNil))) (tCallS (sp__law_refusal g) (WE W) (tCons (tVar 2) tNil)))) ρ1 M1 ⟨fun _ M' => Q .non M', Q, fun _ _ => False, fun _ _ => False⟩ (fun c _ M' => E c M'), rt := Q } : DE).nx
        (([some (.int k), some v, some .non, some .non, none] : En).set 2 (some (.exc (w.cls g))) |>.set 4 none) M' := fun w M' hq => by
    refine ⟨hx.m w, ?_⟩
    walk_at "d"
    refine br_nf' ?_
    walk_at "d"
    exact .inr ⟨w, rfl, hq⟩
  walk_at "d"
  rcases h with ⟨rfl, s, rfl, hl, q1, q2⟩ | ⟨rfl, rs, hxx, hl, hf, hq⟩ | ⟨hk, rs, hxx, hl, hf, w, hw, q⟩ | ⟨rfl, hxx, q⟩
  · refine ⟨0, _, rfl, .inl ⟨rfl, s, rfl, hl, fun ds hds a ha => ?_, fun hn M' kn => bad .text M' (q2 hn M' kn)⟩⟩
    walk_at "d"
    refine br_nt' ?_
    walk_at "d"
    exact q1 ds hds a ha
  · refine ⟨1, _, rfl, .inr (.inl ⟨rfl, rs, hxx, hl, hf, ?_⟩)⟩
    rcases hq with ⟨ds, e, hok, q⟩ | ⟨w, hw, q⟩
    · refine .inl ⟨ds, e, hok, ?_⟩
      walk_at "d"
      refine br_nt' ?_
      walk_at "d"
      exact q
    · exact .inr ⟨w, hw, bad w M q⟩
  · exact ⟨k, _, rfl, .inr (.inr (.inl ⟨hk, rs, hxx, hl, hf, w, hw, bad w M q⟩))⟩
  · exact ⟨2, _, rfl, .inr (.inr (.inr ⟨rfl, hxx, fun M' kn => bad .number M' (q M' kn)⟩))⟩
section
variable {W : WX} {X : XD} {ρ : En} {M : Mh} {Q : D → Mh → Prop} {g : G}
/-- as it is, or a cell inside known no more as one that may change -/
theorem l_frzO {te : TE} (h : lE W te ρ M (fun d M1 => Q d M1 ∨ ∃ a es, M1 a = some (.lst es) ∧ Q (frzD a es d) (deM M1 a)) X) : lE W te ρ M Q X := fun σ H k s e p px =>
  h σ H k s e (fun v d H1 M1 q1 s1 t1 r1 => by
    rcases q1 with q | ⟨a, es, m, q⟩
    · exact p v d H1 M1 q s1 t1 r1
    · exact p _ _ H1 _ q (s1.frz m) (t1.trans (Stp.frz m)) (Rp.frzA s1 m r1)) px
/-- told(0, text), the list known no more as one that may change -/
theorem l_told0 {tv : TE} (hv : lE W tv ρ M (fun d M' => ∃ s, d = .str s ∧ s.length ≤ 900 ∧ (∀ ds, readF s = some ds → Q (.tup [.str wFound, .lst ((ds.map Dd.ra).map raD)]) M') ∧ (readF s = none → ∀ M'', KnM M' M'' → Q (refD .text) M'')) X) :
    lE W (tCallS (sp__law_told g) (WE W) (tCons (tC (.int 0)) (tCons tv tNil))) ρ M Q X := by
  refine l_frzO (l_call (a_cons (l_int (a_cons (lE_mono hv ?_)))))
  rintro d M' ⟨s, rfl, hl, q1, q2⟩
  refine a_nil ⟨rfl, 0, _, rfl, .inl ⟨rfl, s, rfl, hl, fun ds hds a ha => .inr ⟨a, _, upM_same, ?_⟩, fun hn M'' kn => .inl (q2 hn M'' kn)⟩⟩
  rw [deM_upM ha]
  have e : frzD a ((ds.map Dd.ra).map raD) (.tup [.str wFound, .ref a]) = .tup [.str wFound, .lst ((ds.map Dd.ra).map raD)] := by simp [frzD, frzDs]
  rw [e]
  exact q1 ds hds
/-- told(1, deeds) -/
theorem told1 {E : Addr → Mh → Prop} {x : D} {ds : List Dd} (hx : isL M x ((ds.map Dd.ra).map raD)) (hl : ds.length ≤ 1000) (hok : ∀ d ∈ ds, d.ok) (q : Q (.tup [.str wFound, .str (textD ds)]) M) : ds__law_told g [.int 1, x] M Q E :=
  ⟨1, _, rfl, .inr (.inl ⟨rfl, ds.map Dd.ra, hx, by rw [List.length_map]; exact hl, fun r hr => (by obtain ⟨d, hd, rfl⟩ := List.mem_map.mp hr; exact Dd.fit (hok d hd)), .inl ⟨ds, rfl, hok, q⟩⟩)⟩
end
abbrev nm_law : List Str := ["_law_script", "_law_town", "_law_deeds", "_law_text_here", "_law_at", "_law_odd", "_law_bad", "_law_word", "_law_some", "_law_bend", "_law_sign", "_law_bent", "_law_told_here", "_law_k", "_law_kind"]
def t_law (g : G) (W : WX) : TS := (tSeq (tAsg (tLst tNil) (gName 1)) (tSeq (tAsg (tLc (iRng1 (tCons (tCallS (sp__law_draw g) (WE W) (tCons (tVar 0) (tCons (tVar 1) (tCons (tC (.int 13)) tNil)))) tNil)) (gName 13) tYes (tCallS (sp__law_deed g) (WE W0) (tCons (tVar 0) (tCons (tVar 1) tNil))) [13]) (gName 2)) (tSeq (tAsg (tCallS (sp__law_text g) (WE W) (tCons (tVar 2) tNil)) (gName 3)) (tSeq (tIfS (tOr (tTest (tOp (rNeA g.K) (tCallS (sp__law_told g) (WE W) (tCons (tC (.int 1)) (tCons (tVar 2) tNil))) (tTup (tCons (tC (.str (S [102, 111, 117, 110, 100]))) (tCons (tVar 3) tNil))))) (tTest (tOp (rNeA g.K) (tCallS (sp__law_told g) (WE W) (tCons (tC (.int 0)) (tCons (tVar 3) tNil))) (tTup (tCons (tC (.str (S [102, 111, 117, 110, 100]))) (tCons (tVar 2) tNil)))))) (tRet (tC (.bl false))) tNext) (tSeq (tAsg (tCallS (sp__law_draw g) (WE W) (tCons (tVar 0) (tCons (tVar 1) (tCons (tOp (rAddA g.K) (tCB (rLenA g.K) (tCons (tVar 2) tNil)) (tC (.int 1))) tNil)))) (gName 4)) (tSeq (tAsg (tLst (tCons (tTup (tCons (tTup tNil) (tCons (tC (.str (S [97, 115, 107]))) tNil))) (tCons (tTup (tCons (tTup (tCons (tC (.str (S [119, 97, 105, 116]))) (tCons (tC (.str (S [97]))) tNil))) (tCons (tC (.str (S [97, 115, 107]))) tNil))) (tCons (tTup (tCons (tTup (tCons (tC (.str (S [114, 117, 98]))) (tCons (tC (.str (S [97]))) tNil))) (tCons (tC (.str (S [97, 115, 107]))) tNil))) (tCons (tTup (tCons (tTup (tCons (tC (.str (S [116, 105, 99, 107]))) tNil)) (tCons (tC (.str (S [97, 115, 107]))) tNil))) (tCons (tTup (tCons (tTup (tCons (tC (.str (S [116, 105, 99, 107]))) (tCons (tC (.int 1000)) tNil))) (tCons (tC (.str (S [110, 117, 109, 98, 101, 114]))) tNil))) tNil)))))) (gName 5)) (tSeq (tAsg (tOp (rAddA g.K) (tVar 5) (tLst (tCons (tTup (tCons (tTup (tCons (tC (.str (S [116, 105, 99, 107]))) (tCons (tOp (rSubA) (tC (.int 0)) (tC (.int 1))) tNil))) (tCons (tC (.str (S [110, 117, 109, 98, 101, 114]))) tNil))) (tCons (tTup (tCons (tTup (tCons (tC (.str (S [107, 101, 121]))) (tCons (tOp (rMulA) (tC (.str (S [97]))) (tC (.int 41))) tNil))) (tCons (tC (.str (S [116, 101, 120, 116]))) tNil))) (tCons (tTup (tCons (tTup (tCons (tC (.str (S [97, 100, 100]))) (tCons (tC (.str (S [97, 10]))) tNil))) (tCons (tC (.str (S [116, 101, 120, 116]))) tNil))) tNil))))) (gName 5)) (tSeq (tDrop (tBM g.K "list" (rAppend) (tVar 5) (tCons (tTup (tCons (tTup (tCons (tC (.str (S [112, 117, 116]))) (tCons (tOp (rMulA) (tC (.str (S [126, 126]))) (tC (.int 21))) tNil))) (tCons (tC (.str (S [116, 101, 120, 116]))) tNil))) tNil))) (tSeq (tAsg (tCallS (sp__law_pick g) (WE W) (tCons (tVar 0) (tCons (tVar 1) (tCons (tVar 5) tNil)))) (gTup g.K 2 (gCons (gName 6) (gCons (gName 7) gNil)))) (tSeq (tAsg (tOp (rAddA g.K) (tOp (rAddA g.K) (tSl (rSlA g.K) (tVar 2) tNoPart (tPart (tVar 4))) (tLst (tCons (tVar 6) tNil))) (tSl (rSlA g.K) (tVar 2) (tPart (tVar 4)) tNoPart)) (gName 8)) (tSeq (tIfS (tTest (tOp (rNeA g.K) (tLc (iTup g.K (tTup (tCons (tC (.int 1)) (tCons (tC (.int 2)) (tCons (tC (.int 3)) tNil))))) (gName 14) tYes (tCallS (sp__law_told g) (WE W0) (tCons (tVar 14) (tCons (tCB (rListA g.K) (tCons (tVar 8) tNil)) tNil))) [14]) (tOp (rMulA) (tLst (tCons (tTup (tCons (tC (.str (S [114, 101, 102, 117, 115, 101, 100]))) (tCons (tVar 7) tNil))) tNil)) (tC (.int 3))))) (tRet (tC (.bl false))) tNext) (tSeq (tIfS (tTest (tOp (rNeA g.K) (tCallS (sp__law_told g) (WE W) (tCons (tC (.int 2)) (tCons (tLst tNil) tNil))) (tTup (tCons (tC (.str (S [114, 101, 102, 117, 115, 101, 100]))) (tCons (tC (.str (S [110, 117, 109, 98, 101, 114]))) tNil))))) (tRet (tC (.bl false))) tNext) (tSeq (tFor (iRng1 (tCons (tC (.int 5)) tNil)) (gName 9) (tSeq (tAsg (tCallS (sp__law_draw g) (WE W) (tCons (tVar 0) (tCons (tVar 1) (tCons (tOp (rAddA g.K) (tCB (rLenA g.K) (tCons (tVar 3) tNil)) (tC (.int 1))) tNil)))) (gName 4)) (tSeq (tAsg (tCallS (sp__law_pick g) (WE W) (tCons (tVar 0) (tCons (tVar 1) (tCons (tLst (tCons (tC (.str (S []))) (tCons (tC (.str (S [97]))) (tCons (tC (.str (S [32]))) (tCons (tC (.str (S [10]))) (tCons (tC (.str (S [48]))) (tCons (tC (.str (S [57]))) (tCons (tC (.str (S [114, 117, 98]))) (tCons (tC (.str (S [116, 105, 99, 107, 32, 49]))) (tCons (tC (.str (S [10, 97, 103, 97, 105, 110]))) (tCons (tC (.str (S [45]))) (tCons (tC (.str (S [10, 107, 101, 121, 32, 98]))) tNil)))))))))))) tNil)))) (gName 10)) (tSeq (tAsg (tOp (rAddA g.K) (tOp (rAddA g.K) (tSl (rSlA g.K) (tVar 3) tNoPart (tPart (tVar 4))) (tVar 10)) (tSl (rSlA g.K) (tVar 3) (tPart (tOp (rAddA g.K) (tVar 4) (tCallS (sp__law_draw g) (WE W) (tCons (tVar 0) (tCons (tVar 1) (tCons (tC (.int 2)) tNil)))))) tNoPart)) (gName 11)) (tSeq (tAsg (tCallS (sp__law_told g) (WE W) (tCons (tC (.int 0)) (tCons (tVar 11) tNil))) (gName 12)) (tIfS (tTest (tOp (rEqA g.K) (tOp (rIx g.K) (tVar 12) (tC (.int 0))) (tC (.str (S [102, 111, 117, 110, 100]))))) (tIfS (tOr (tTest (tOp (rNeA g.K) (tCallS (sp__law_text g) (WE W) (tCons (tOp (rIx g.K) (tVar 12) (tC (.int 1))) tNil)) (tVar 11))) (tTest (tOp (rNeA g.K) (tCallS (sp__law_told g) (WE W) (tCons (tC (.int 1)) (tCons (tOp (rIx g.K) (tVar 12) (tC (.int 1))) tNil))) (tTup (tCons (tC (.str (S [102, 111, 117, 110, 100]))) (tCons (tVar 11) tNil)))))) (tRet (tC (.bl false))) tNext) (tIfS (tTest (tOp (rNeA g.K) (tVar 12) (tTup (tCons (tC (.str (S [114, 101, 102, 117, 115, 101, 100]))) (tCons (tC (.str (S [116, 101, 120, 116]))) tNil))))) (tRet (tC (.bl false))) tNext))))))) (tSeq (tAsg (tLst (tCons (tC (.str (S [10]))) (tCons (tC (.str (S [114, 117, 98, 32]))) (tCons (tC (.str (S [114, 117, 98, 10]))) (tCons (tC (.str (S [116, 105, 99, 107]))) (tCons (tC (.str (S [116, 105, 99, 107, 32]))) (tCons (tC (.str (S [116, 105, 99, 107, 32, 48, 49]))) (tCons (tC (.str (S [116, 105, 99, 107, 32, 49, 48, 48, 48]))) (tCons (tC (.str (S [116, 105, 99, 107, 32, 45, 49]))) (tCons (tC (.str (S [119, 97, 105, 116, 32, 97]))) (tCons (tC (.str (S [107, 101, 121]))) tNil))))))))))) (gName 5)) (tSeq (tAsg (tOp (rAddA g.K) (tVar 5) (tLst (tCons (tC (.str (S [97, 103, 97, 105, 110, 32, 49]))) (tCons (tC (.str (S [32, 114, 117, 98]))) (tCons (tC (.str (S [82, 117, 98]))) tNil))))) (gName 5)) (tRet (tOp (rEqA g.K) (tCallS (sp__law_told g) (WE W) (tCons (tC (.int 0)) (tCons (tCallS (sp__law_pick g) (WE W) (tCons (tVar 0) (tCons (tVar 1) (tCons (tVar 5) tNil)))) tNil))) (tTup (tCons (tC (.str (S [114, 101, 102, 117, 115, 101, 100]))) (tCons (tC (.str (S [116, 101, 120, 116]))) tNil))))))))))))))))))))


theorem Twn.kn {M M' : Mh} {t : Addr} {n : Nat} (h : Twn M t n) (k : KnM M M') : Twn M' t n := by
  obtain ⟨zs, e, hl⟩ := h
  exact ⟨zs, k _ _ e, hl⟩
theorem okN_dd {d : Dd} (h : d.ok) : OkN 1 (raD d.ra) := by
  cases d with
  | put t => exact OkN.tup (OkN.cons (OkN.str (by decide)) (OkN.cons (okN_str (show okT 40 t = true from h)) OkN.nil))
  | key t => exact OkN.tup (OkN.cons (OkN.str (by decide)) (OkN.cons (okN_str (show okT 40 t = true from h)) OkN.nil))
  | add t => exact OkN.tup (OkN.cons (OkN.str (by decide)) (OkN.cons (okN_str (show okT 40 t = true from h)) OkN.nil))
  | rem t => exact OkN.tup (OkN.cons (OkN.str (by decide)) (OkN.cons (okN_str (show okT 40 t = true from h)) OkN.nil))
  | tick i => exact OkN.tup (OkN.cons (OkN.str (by decide)) (OkN.cons OkN.int OkN.nil))
  | rub => exact OkN.tup (OkN.cons (OkN.str (by decide)) OkN.nil)
  | again => exact OkN.tup (OkN.cons (OkN.str (by decide)) OkN.nil)
theorem okD_dds {ds : List Dd} (h : ∀ d ∈ ds, d.ok) : okD (.tup [.str wFound, .lst ((ds.map Dd.ra).map raD)]) = true := by
  refine (OkN.tup (n := 2) (OkN.cons (OkN.str (by decide)) (OkN.cons (OkN.lst fun e he => ?_) OkN.nil))).ok
  obtain ⟨r, hr, rfl⟩ := List.mem_map.mp he
  obtain ⟨d, hd, rfl⟩ := List.mem_map.mp hr
  exact okN_dd (h d hd)
theorem okD_fnd {ds : List Dd} (h : ∀ d ∈ ds, d.ok) : okD (.tup [.str wFound, .str (textD ds)]) = true :=
  (OkN.tup (n := 0) (OkN.cons (OkN.str (by decide)) (OkN.cons (OkN.str fun c hc => by have := textD_signs h c hc; omega) OkN.nil))).ok
theorem refD_ok' (w : Xw) : OkN 1 (refD w) := by cases w <;> exact OkN.tup (OkN.cons (OkN.str (by decide)) (OkN.cons (OkN.str (by decide)) OkN.nil))
def badL' : List (Ra × Xw) := [(.nil, .ask), (.txt [119, 97, 105, 116] [97], .ask), (.txt wRub [97], .ask), (.one wTick, .ask), (.num wTick 1000, .number), (.num wTick (-1), .number), (.txt wKey (List.replicate 41 97), .text), (.txt wAdd' [97, 10], .text), (.txt wPut (List.replicate 42 126), .text)]
def badD (p : Ra × Xw) : D := .tup [raD p.1, .str p.2.sign]
theorem badL'_ok : ∀ p ∈ badL', p.1.fit ∧ lookR p.1 = some p.2 := by
  intro p hp
  unfold badL' at hp
  simp only [List.mem_cons, List.not_mem_nil, or_false] at hp
  rcases hp with rfl | rfl | rfl | rfl | rfl | rfl | rfl | rfl | rfl
  · exact ⟨trivial, rfl⟩
  · exact ⟨⟨by decide, by decide⟩, rfl⟩
  · exact ⟨⟨by decide, by decide⟩, rfl⟩
  · exact ⟨trivial, rfl⟩
  · exact ⟨rfl, rfl⟩
  · exact ⟨rfl, rfl⟩
  · exact ⟨⟨by decide, by decide⟩, rfl⟩
  · exact ⟨⟨by decide, by decide⟩, rfl⟩
  · exact ⟨⟨by decide, by decide⟩, rfl⟩
theorem looks_bad {ds es : List Dd} {r : Ra} {w : Xw} (h : ∀ d ∈ ds, d.ok) (hr : lookR r = some w) : looksR (ds.map Dd.ra ++ [r] ++ es.map Dd.ra) = some w := by
  have h0 : looksR (ds.map Dd.ra) = none := by
    unfold looksR
    rw [List.findSome?_eq_none_iff]
    intro r hr
    obtain ⟨d, hd, rfl⟩ := List.mem_map.mp hr
    exact Dd.look (h d hd)
  unfold looksR at h0 ⊢
  rw [List.findSome?_append, List.findSome?_append, h0]
  simp [hr]
theorem readF_len {s : List Nat} {ds : List Dd} (h : readF s = some ds) : ds.length ≤ s.length + 1 := by
  have h1 := (readF_ok h).2.2
  unfold rowsF at h1
  by_cases z : s = []
  · rw [if_pos z] at h1
    obtain rfl := Option.some.inj h1
    exact Nat.zero_le _
  · rw [if_neg z] at h1
    have := (deedsF_ok h1).2
    have := (spl10 0 [] s).2
    omega
theorem d_law {g : G} : Keeps 1 nm_law (t_law g) (ds_law g) := by
  rintro W xs M Q E - ⟨ns, rfl, q⟩
  show lS W (t_law g W) [some (scr g.K ns), none, none, none, none, none, none, none, none, none, none, none, none, none, none] M _ _
  unfold t_law
  walk_at "d"
  refine l_lstM ?_
  walk_at "d"
  intro t ht
  have tw0 : Twn (upM M t (.lst [])) t 0 := ⟨[], upM_same, Nat.le_refl _⟩
  generalize upM M t (.lst []) = M0 at tw0
  walk_at "d1"
  refine s_cut (fun ρ' M' => ∃ ds : List Dd, ρ' = [some (scr g.K ns), some (.ref t), some (.lst ((ds.map Dd.ra).map raD)), none, none, none, none, none, none, none, none, none, none, none, none] ∧ Twn M' t 300 ∧ (∀ d ∈ ds, d.ok) ∧ ds.length ≤ 12) ?_ ?_
  · refine s_asg (l_frz (l_lc (wip_name (by decide)) ?_))
    walk_at "d"
    refine ⟨ns, t, 13, 0, rfl, by omega, by omega, tw0, fun n1 M1 hn1 w1 => ?_⟩
    walk_at "d"
    refine ⟨by omega, by omega, fun a ha => ?_⟩
    have hat := w1.twn.fr ha
    refine ⟨fun i acc M' => ∃ (ds : List Dd) (M4 : Mh), acc = (ds.map Dd.ra).map raD ∧ ds.length = i ∧ i ≤ 100 ∧ (∀ d ∈ ds, d.ok) ∧ Twn M4 t (1 + 20 * i) ∧ M4 a = none ∧ M' = upM M4 a (.lst acc), ⟨[], M1, rfl, rfl, by omega, fun o h => absurd h (by simp), w1.twn, ha, rfl⟩, ?_, ?_, ?_⟩
    · rintro i acc M' ⟨ds, M4, rfl, hl, hi, h1, w4, ha3, rfl⟩
      exact ⟨trivial, upM_same, by rw [List.length_map, List.length_map]; omega⟩
    · rintro i acc M' y hy ⟨ds, M4, rfl, hl, hi, h1, w4, ha3, rfl⟩
      obtain ⟨hi, rfl⟩ := rng_at hy
      have hi : i < n1 := by omega
      walk_at "d"
      refine ⟨ns, t, 1 + 20 * i, rfl, by omega, w4.up hat, fun d M5 hd w5 => ?_⟩
      obtain ⟨M6, w6, rfl⟩ := w5.under hat
      refine ⟨upM_same, ds ++ [d], M6, by rw [List.map_append, List.map_append]; rfl, by rw [List.length_append, hl]; rfl, by omega, fun o' h => ?_, w6.twn.mono (by omega), (w6.none).mpr ha3, by rw [upM_upM]⟩
      rcases List.mem_append.mp h with h | h
      · exact h1 o' h
      · rw [List.mem_singleton.mp h]
        exact hd
    rintro acc M' ⟨ds1, M4, rfl, hl1, hi1, hok1, w4, ha3, rfl⟩
    rw [rng_len] at hl1 w4
    refine ⟨a, _, rfl, upM_same, ?_⟩
    rw [deM_upM ha3]
    walk_at "d"
    exact ⟨w4.mono (by omega), hok1, by omega⟩
  rintro ρ' M1 ⟨ds, rfl, tw, hok, hl⟩
  have hT := textD_len hok
  walk_at "d"
  refine ⟨_, ds, rfl, isL_lst, by omega, hok, ?_⟩
  walk_at "d"
  refine told1 (ds := ds) isL_lst (by omega) hok ?_
  walk_at "d"
  refine r_neR (d := .tup [.str wFound, .str (textD ds)]) asD_self asD_self (okD_fnd hok) ?_
  refine ⟨_, rfl, br_nf' ?_⟩
  refine t_test (l_op (l_told0 (l_var rfl ⟨textD ds, rfl, by omega, fun ds' hds => ?_, fun z => absurd z (by rw [readF_text hok]; exact fun y => nomatch y)⟩)))
  rw [readF_text hok] at hds
  obtain rfl := Option.some.inj hds
  walk_at "d"
  refine r_neR (d := .tup [.str wFound, .lst ((ds.map Dd.ra).map raD)]) asD_self asD_self (okD_dds hok) ?_
  walk_at "d"
  refine c_len (.inl isL_lst) ?_
  rw [List.length_map, List.length_map]
  walk_at "d"
  refine ⟨ns, t, ds.length + 1, _, rfl, by omega, by omega, tw, fun at0 M2 hat2 w2 => ?_⟩
  have tw := w2.twn
  walk_at "d"
  refine l_lst ?_
  walk_at "d"
  refine l_lst ?_
  walk_at "d"
  refine r_mulS (a := [97]) (n := 41) (by decide) (by decide) ?_
  walk_at "d"
  refine r_addLM isL_lst isL_lst (by decide) fun o ho => ?_
  have hot := tw.fr ho
  walk_at "d"
  refine l_bmL ?_
  walk_at "d"
  refine ⟨⟨_, isL_ref upM_same⟩, ?_⟩
  walk_at "d"
  refine r_mulS (a := [126, 126]) (n := 21) (by decide) (by decide) ?_
  walk_at "d"
  refine m_append upM_same (by decide) ?_
  rw [upM_upM]
  have el : ([D.tup [D.tup [], D.str [97, 115, 107]], D.tup [D.tup [D.str [119, 97, 105, 116], D.str [97]], D.str [97, 115, 107]], D.tup [D.tup [D.str [114, 117, 98], D.str [97]], D.str [97, 115, 107]], D.tup [D.tup [D.str [116, 105, 99, 107]], D.str [97, 115, 107]], D.tup [D.tup [D.str [116, 105, 99, 107], D.int 1000], D.str [110, 117, 109, 98, 101, 114]]] ++
      [D.tup [D.tup [D.str [116, 105, 99, 107], D.int (0 - 1)], D.str [110, 117, 109, 98, 101, 114]], D.tup [D.tup [D.str [107, 101, 121], D.str (List.replicate 41 [97]).flatten], D.str [116, 101, 120, 116]], D.tup [D.tup [D.str [97, 100, 100], D.str [97, 10]], D.str [116, 101, 120, 116]]] ++ [D.tup [D.tup [D.str [112, 117, 116], D.str (List.replicate 21 [126, 126]).flatten], D.str [116, 101, 120, 116]]]) = badL'.map badD := rfl
  rw [el]
  have tw3 : Twn (upM M2 o (.lst (badL'.map badD))) t 301 := tw.keep ho
  have in3 : upM M2 o (.lst (badL'.map badD)) o = some (.lst (badL'.map badD)) := upM_same
  show lS W _ _ (upM M2 o (.lst (badL'.map badD))) _ _
  generalize upM M2 o (.lst (badL'.map badD)) = M3 at tw3 in3
  walk_at "d"
  refine ⟨ns, t, _, badL'.map badD, 301, rfl, .inr (.inr ⟨o, hot, rfl, in3⟩), by decide, by omega, tw3, fun y M4 hy w4 => ?_⟩
  have tw4 := w4.twn
  obtain ⟨⟨r, w⟩, hp, rfl⟩ := List.mem_map.mp hy
  obtain ⟨hfit, hlook⟩ := badL'_ok _ hp
  dsimp only at hfit hlook
  unfold badD
  walk_at "d"
  refine sl_L isL_lst ?_
  rw [cut_to]
  walk_at "d"
  refine l_lst ?_
  walk_at "d"
  refine r_addL isL_lst isL_lst (by rw [List.length_take, List.length_map, List.length_map]; simp only [List.length_cons, List.length_nil]; omega) ?_
  walk_at "d"
  refine sl_L isL_lst ?_
  rw [cut_from]
  refine r_addL isL_lst isL_lst (by rw [List.length_append, List.length_take, List.length_drop, List.length_map, List.length_map]; simp only [List.length_cons, List.length_nil]; omega) ?_
  have es : ((ds.map Dd.ra).map raD).take at0 ++ [raD r] ++ ((ds.map Dd.ra).map raD).drop at0 = ((ds.take at0).map Dd.ra ++ [r] ++ (ds.drop at0).map Dd.ra).map raD := by
    rw [List.map_append, List.map_append, List.map_take, List.map_take, List.map_drop, List.map_drop]
    rfl
  rw [es]
  obtain ⟨rs, hrs⟩ : ∃ rs, rs = (ds.take at0).map Dd.ra ++ [r] ++ (ds.drop at0).map Dd.ra := ⟨_, rfl⟩
  have hlk : looksR rs = some w := by rw [hrs]; exact looks_bad (fun d hd => hok d (List.mem_of_mem_take hd)) hlook
  have hrf : ∀ r' ∈ rs, r'.fit := fun r' hr' => by
    rw [hrs] at hr'
    rcases List.mem_append.mp hr' with h | h
    · rcases List.mem_append.mp h with h | h
      · obtain ⟨d, hd, rfl⟩ := List.mem_map.mp h
        exact Dd.fit (hok d (List.mem_of_mem_take hd))
      · rw [List.mem_singleton.mp h]
        exact hfit
    · obtain ⟨d, hd, rfl⟩ := List.mem_map.mp h
      exact Dd.fit (hok d (List.mem_of_mem_drop hd))
  have hrl : rs.length ≤ 1000 := by
    rw [hrs, List.length_append, List.length_append, List.length_map, List.length_map, List.length_take, List.length_drop]
    simp only [List.length_cons, List.length_nil]
    omega
  rw [← hrs]
  walk_at "d"
  refine l_lcP (wip_name (by decide)) ?_
  walk_at "d"
  refine ⟨fun _ => some (refD w), by decide, fun _ _ => trivial, ?_, ?_⟩
  · intro y hy M' _
    simp only [List.mem_cons, List.not_mem_nil, or_false] at hy
    rcases hy with rfl | rfl | rfl
    · walk_at "d"
      refine c_list (.inl isL_lst) ?_
      walk_at "d"
      exact ⟨1, _, rfl, .inr (.inl ⟨rfl, rs, isL_lst, hrl, hrf, .inr ⟨w, hlk, rfl, rfl⟩⟩)⟩
    · walk_at "d"
      refine c_list (.inl isL_lst) ?_
      walk_at "d"
      exact ⟨2, _, rfl, .inr (.inr (.inl ⟨.inl rfl, rs, isL_lst, hrl, hrf, w, hlk, rfl, rfl⟩))⟩
    · walk_at "d"
      refine c_list (.inl isL_lst) ?_
      walk_at "d"
      exact ⟨3, _, rfl, .inr (.inr (.inl ⟨.inr rfl, rs, isL_lst, hrl, hrf, w, hlk, rfl, rfl⟩))⟩
  show lE W _ _ _ (fun y M2 => lR (rNeA g.K) (.lst [refD w, refD w, refD w]) y M2 _) _
  walk_at "d"
  refine l_lst ?_
  walk_at "d"
  refine r_mulL (n := 3) isL_lst (by show 1 * 3 ≤ 100000; decide) (by decide) ?_
  refine r_neR (d := .lst [refD w, refD w, refD w]) asD_self asD_self (OkN.lst (n := 1) (OkN.cons (refD_ok' w) (OkN.cons (refD_ok' w) (OkN.cons (refD_ok' w) OkN.nil)))).ok ?_
  walk_at "d"
  refine l_lst ?_
  walk_at "d"
  refine ⟨2, _, rfl, .inr (.inr (.inr ⟨rfl, isL_lst, fun M5 kn5 => ?_⟩))⟩
  have tw5 := tw4.kn kn5
  walk_at "d"
  refine r_neR (d := refD .number) asD_self asD_self (refD_ok' _).ok ?_
  walk_at "d"
  have hTl : (textD ds).length ≤ 612 := by omega
  generalize hTT : textD ds = T at hT hTl
  refine s_cut' (fun ρ' M' => ∃ y4 y9 y10 y11 y12, ρ' = [some (scr g.K ns), some (.ref t), some (.lst ((ds.map Dd.ra).map raD)), some (.str T), y4, some (.ref o), some (raD r), some (.str w.sign), some (.lst (rs.map raD)), y9, y10, y11, y12, none, none] ∧ Twn M' t 1000) ?_ ?_
  · refine s_for ?_
    walk_at "d"
    refine ⟨by omega, by omega, fun i ρ' M' => ∃ y4 y9 y10 y11 y12, ρ' = [some (scr g.K ns), some (.ref t), some (.lst ((ds.map Dd.ra).map raD)), some (.str T), y4, some (.ref o), some (raD r), some (.str w.sign), some (.lst (rs.map raD)), y9, y10, y11, y12, none, none] ∧ Twn M' t (302 + 5 * i), ⟨_, _, _, _, _, rfl, tw5.mono (by omega)⟩, fun _ _ _ _ => trivial, ?_, ?_⟩
    · rintro i ρ' M' d hd ⟨y4, y9, y10, y11, y12, rfl, tw⟩
      obtain ⟨hi, rfl⟩ := rng_at hd
      have hi : i < 5 := hi
      rw [Int.zero_add]
      walk_at "d1"
      refine s_cut (fun ρ' M2 => ∃ at1 : Nat, ρ' = [some (scr g.K ns), some (.ref t), some (.lst ((ds.map Dd.ra).map raD)), some (.str T), some (.int (at1 : Int)), some (.ref o), some (raD r), some (.str w.sign), some (.lst (rs.map raD)), some (.int (i : Int)), y10, y11, y12, none, none] ∧ at1 ≤ T.length ∧ Twn M2 t (302 + 5 * i + 1)) ?_ ?_
      · walk_at "d"
        refine ⟨ns, t, T.length + 1, _, rfl, by omega, by omega, tw, fun at1 M6 hat1 w6 => ?_⟩
        walk_at "d"
        exact ⟨by omega, w6.twn⟩
      rintro ρ' M6 ⟨at1, rfl, hat1, tw6⟩
      refine s_cut (fun ρ' M2 => ∃ sg : List Nat, ρ' = [some (scr g.K ns), some (.ref t), some (.lst ((ds.map Dd.ra).map raD)), some (.str T), some (.int (at1 : Int)), some (.ref o), some (raD r), some (.str w.sign), some (.lst (rs.map raD)), some (.int (i : Int)), some (.str sg), y11, y12, none, none] ∧ sg.length ≤ 10 ∧ Twn M2 t (302 + 5 * i + 2)) ?_ ?_
      · walk_at "d"
        refine l_lst ?_
        walk_at "d"
        refine ⟨ns, t, _, ([[], [97], [32], [10], [48], [57], [114, 117, 98], [116, 105, 99, 107, 32, 49], [10, 97, 103, 97, 105, 110], [45], [10, 107, 101, 121, 32, 98]] : List (List Nat)).map D.str, _, rfl, .inl rfl, by decide, by omega, tw6, fun y M7 hy w7 => ?_⟩
        obtain ⟨sg, hsg, rfl⟩ := List.mem_map.mp hy
        have hall : ∀ s ∈ ([[], [97], [32], [10], [48], [57], [114, 117, 98], [116, 105, 99, 107, 32, 49], [10, 97, 103, 97, 105, 110], [45], [10, 107, 101, 121, 32, 98]] : List (List Nat)), s.length ≤ 10 := by decide
        walk_at "d"
        exact ⟨hall sg hsg, w7.twn⟩
      rintro ρ' M7 ⟨sg, rfl, hsg, tw7⟩
      refine s_cut (fun ρ' M2 => ∃ bt : List Nat, ρ' = [some (scr g.K ns), some (.ref t), some (.lst ((ds.map Dd.ra).map raD)), some (.str T), some (.int (at1 : Int)), some (.ref o), some (raD r), some (.str w.sign), some (.lst (rs.map raD)), some (.int (i : Int)), some (.str sg), some (.str bt), y12, none, none] ∧ bt.length ≤ 900 ∧ Twn M2 t (302 + 5 * i + 3)) ?_ ?_
      · walk_at "d"
        refine sl_S (by omega) ?_
        rw [cut_to]
        walk_at "d"
        refine r_addS (by rw [List.length_take]; omega) ?_
        walk_at "d"
        refine ⟨ns, t, 2, _, rfl, by omega, by omega, tw7, fun d2 M8 hd2 w8 => ?_⟩
        walk_at "d"
        rw [show ((at1 : Int) + (d2 : Int)) = ((at1 + d2 : Nat) : Int) from rfl]
        refine sl_S (by omega) ?_
        rw [cut_from]
        refine r_addS (by rw [List.length_append, List.length_take, List.length_drop]; omega) ?_
        walk_at "d"
        exact ⟨by rw [List.length_append, List.length_append, List.length_take, List.length_drop]; omega, w8.twn⟩
      rintro ρ' M8 ⟨bt, rfl, hbt, tw8⟩
      refine s_seq (s_asg (l_told0 (l_var rfl ⟨bt, rfl, hbt, fun ds' hds => ?_, fun hn M9 kn9 => ?_⟩)))
      · obtain ⟨hok', htx, _⟩ := readF_ok hds
        have hl' := readF_len hds
        walk_at "d"
        refine r_ix (.inr rfl) (at_nat (j := 0) rfl) ?_
        walk_at "d"
        refine br_nt' ?_
        walk_at "d"
        refine r_ix (.inr rfl) (at_nat (j := 1) rfl) ?_
        walk_at "d"
        refine ⟨_, ds', rfl, isL_lst, by omega, hok', ?_⟩
        rw [htx]
        walk_at "d"
        refine ⟨fun z => absurd z (by simp), fun _ => ?_⟩
        walk_at "d"
        refine r_ix (.inr rfl) (at_nat (j := 1) rfl) ?_
        walk_at "d"
        refine told1 (ds := ds') isL_lst (by omega) hok' ?_
        walk_at "d"
        refine r_neR (d := .tup [.str wFound, .str (textD ds')]) asD_self (by rw [htx]; exact asD_self) (okD_fnd hok') ?_
        walk_at "d"
        exact ⟨_, _, _, _, _, rfl, tw8.mono (by omega)⟩
      · have tw9 := tw8.kn kn9
        unfold refD
        walk_at "d"
        refine r_ix (.inr rfl) (at_nat (j := 0) rfl) ?_
        walk_at "d"
        refine br_nf' ?_
        walk_at "d"
        refine r_neR (d := refD .text) asD_self asD_self (refD_ok' _).ok ?_
        walk_at "d"
        exact ⟨_, _, _, _, _, rfl, tw9.mono (by omega)⟩
    · rintro ρ' M' ⟨y4, y9, y10, y11, y12, rfl, tw⟩
      exact ⟨y4, y9, y10, y11, y12, rfl, tw.mono (by rw [rng_len]; decide)⟩
  rintro ρ' M6 ⟨y4, y9, y10, y11, y12, rfl, tw6⟩
  refine s_cut (fun ρ' M' => ∃ z5, ρ' = [some (scr g.K ns), some (.ref t), some (.lst ((ds.map Dd.ra).map raD)), some (.str T), y4, some z5, some (raD r), some (.str w.sign), some (.lst (rs.map raD)), y9, y10, y11, y12, none, none] ∧ M' = M6 ∧ z5 = .lst ((oddT.take 10).map D.str)) ?_ ?_
  · walk_at "d"
    refine l_lst ?_
    walk_at "d"
    first | exact ⟨_, rfl, rfl, rfl⟩ | exact ⟨rfl, rfl⟩ | rfl
  rintro ρ' M7 ⟨z5, rfl, rfl, rfl⟩
  refine s_cut (fun ρ' M' => ρ' = [some (scr g.K ns), some (.ref t), some (.lst ((ds.map Dd.ra).map raD)), some (.str T), y4, some (.lst (oddT.map D.str)), some (raD r), some (.str w.sign), some (.lst (rs.map raD)), y9, y10, y11, y12, none, none] ∧ M' = M7) ?_ ?_
  · walk_at "d"
    refine l_lst ?_
    walk_at "d"
    refine r_addL isL_lst isL_lst (by decide) ?_
    walk_at "d"
    first | exact ⟨rfl, rfl⟩ | rfl
  rintro ρ' M8 ⟨rfl, rfl⟩
  refine s_ret (l_op (l_told0 ?_))
  walk_at "d"
  refine ⟨ns, t, _, oddT.map D.str, _, rfl, .inl rfl, by decide, by omega, tw6, fun y M9 hy w9 => ?_⟩
  obtain ⟨s, hs, rfl⟩ := List.mem_map.mp hy
  obtain ⟨h1, h2⟩ := oddT_no s hs
  have h3 : ∀ s ∈ oddT, s.length ≤ 900 := by decide
  refine ⟨s, rfl, h3 s hs, fun ds' hds => (by rw [h1] at hds; cases hds), fun _ M10 _ => ?_⟩
  walk_at "d"
  refine r_eqR (d := refD .text) asD_self asD_self (refD_ok' _).ok ?_
  exact q _
def top (i : Nat) : Stmt := PySem.Challenge.pw_typeasks_k51_whole_diary_texts.main.body.getD i (.Pass ⟨0, 0, 0, 0⟩)
structure Txt (w : World) (mg : Str → Option Value) (g : G) : Prop where
  b_len : mg "len" = none
  b_ord : mg "ord" = none
  b_all : mg "all" = none
  b_sorted : mg "sorted" = none
  b_list : mg "list" = none
  b_range : mg "range" = none
  b_max : mg "max" = none
  b_str : mg "str" = none
  b_int : mg "int" = none
  b_isinstance : mg "isinstance" = none
  b_ValueError : mg "ValueError" = none
  c_MOST_ROW : ∃ t, mg "MOST_ROW" = some (.int 20 t)
  c_MOST_TYPED : ∃ t, mg "MOST_TYPED" = some (.int 12 t)
  c_MOST_ANSWER : ∃ t, mg "MOST_ANSWER" = some (.int 6 t)
  c_MOST_ROWS : ∃ t, mg "MOST_ROWS" = some (.int 12 t)
  c_MOST_PAUSE : ∃ t, mg "MOST_PAUSE" = some (.int 9 t)
  c_MOST_ASKS : ∃ t, mg "MOST_ASKS" = some (.int 3 t)
  c_MOST_PATIENCE : ∃ t, mg "MOST_PATIENCE" = some (.int 40 t)
  c_TRIES : ∃ t, mg "TRIES" = some (.int 3 t)
  c_MOST_TICKS : ∃ t, mg "MOST_TICKS" = some (.int 100 t)
  c_MOST_DELAYS : ∃ t, mg "MOST_DELAYS" = some (.int 8 t)
  c_MOST_DELAY : ∃ t, mg "MOST_DELAY" = some (.int 30 t)
  c_MOST_KEPT : ∃ t, mg "MOST_KEPT" = some (.int 6 t)
  c_MOST_TERM : ∃ t, mg "MOST_TERM" = some (.int 60 t)
  c_WORDS : mg "WORDS" = some (.ref g.a_WORDS)
  w_WORDS : WordsAt g.K w g.a_WORDS
  c_MOST_TICK : ∃ t, mg "MOST_TICK" = some (.int 999 t)
  c_MOST_SIGNS : ∃ t, mg "MOST_SIGNS" = some (.int 40 t)
  c_FIGURES : ∃ t, mg "FIGURES" = some (.str "0123456789" t)
  x_BadText : ExC g.K mg "BadText" g.cT
  x_BadNumber : ExC g.K mg "BadNumber" g.cN
  x_BadAsk : ExC g.K mg "BadAsk" g.cA
  x_AskError : ExC g.K mg "AskError" g.cE
  x : XF g
  xm : XM g
  fl_Store : Fld g.K g.cS ["rows"]
  fl_Asker : Fld g.K g.cK ["store", "road", "shelf", "rows_most", "pause", "asks_most", "patience", "time", "now", "typed_at", "is_due", "tries", "asked", "flying", "shown", "rows"]
  fl_Road : Fld g.K g.cR ["delays", "sent", "under_way"]
  fl_Shelf : Fld g.K g.cH ["most", "term", "kept"]
abbrev s_look_text : Stmt := top 9
theorem sc_look_text : FnScope nm_look_text ["text", "most"] (defScope s_look_text) := C8.fnScope_by (by decide +kernel)
theorem ok_look_text {P : Program} {w : World} {mg : Str → Option Value} {base : Heap} {g : G} {f : Addr} {fd : FuncData} (F : Fun g.K "look_text" "look_text" s_look_text f fd) (T : Txt w mg g)  : FnOk P w g.K mg base (L2.CX P w) 1 f fd ["text", "most"] (sp_look_text g) := by
  refine F.okX sc_look_text (fun vs H Q E h => lift_len h) (fun cdv A outer s H vs Q E hr h => ⟨t_look_text g (WF E), ?_, lift_body (by decide) (d_look_text (g := g)) h⟩)
  have tk : Takes (cxOf (L2.CX P w) P w g.K mg base nm_look_text "look_text" (defScope s_look_text) f cdv A outer s H E) (WF E) := takes_of rfl rfl rfl rfl
  skip
  exact (pss_one (ps_if (PW.pt (pw_or (pt_cmpR op_gt (pe_callB cr_lenA (by rfl) T.b_len (by decide +kernel) (pa_cons (pv 0) pa_nil)) (pv 1) (nomark _)) (pw_or1 (pt_not (pt_val (pe_callB (cr_all rfl) (by rfl) T.b_all (by decide +kernel) (pa_cons (pe_lc (own := [("sign", 2)]) (g := (gName 2)) (tt := tYes) (te := (tAndV (tChain (rLeA) (rLtA) (tC (.int 32)) (tCB (rOrd) (tCons (tVar 2) tNil)) (tC (.int 127))) (tOp (rNeA g.K) (tCB (rOrd) (tCons (tVar 2) tNil)) (tC (.int 37))))) rfl sc_look_text.nd (pi_str (pv 0)) (blkOk_by (own := [("sign", 2)]) (N := nm_look_text) (sc := defScope s_look_text) (by decide +kernel)) (fun _ _ _ _ _ => (pg_name (i := 2) sc_look_text.nd rfl (by first | exact Or.inl rfl | exact Or.inr rfl))) (fun _ _ _ _ _ => pts_nil) (fun _ _ _ _ _ => (pe_and (pe_chain op_le op_lt pe_int (pe_callB cr_ord (by rfl) T.b_ord (by decide +kernel) (pa_cons (pv 2) pa_nil)) pe_int) (pe_one (pe_cmpR (op_neA hr.units) (pe_callB cr_ord (by rfl) T.b_ord (by decide +kernel) (pa_cons (pv 2) pa_nil)) pe_int (nomark _)))))) pa_nil))))))) (pss_one (ps_raiseC T.x_BadText rfl tk rfl)) pss_nil))
abbrev s_folded : Stmt := top 10
theorem sc_folded : FnScope nm_folded ["text"] (defScope s_folded) := C8.fnScope_by (by decide +kernel)
theorem ok_folded {P : Program} {w : World} {mg : Str → Option Value} {base : Heap} {g : G} {f : Addr} {fd : FuncData} (F : Fun g.K "folded" "folded" s_folded f fd) (T : Txt w mg g) (c_look_text : Cal P w g.K mg base 1 "look_text" (sp_look_text g)) : FnOk P w g.K mg base (L2.CX P w) 2 f fd ["text"] (sp_folded g) := by
  refine F.okX sc_folded (fun vs H Q E h => lift_len h) (fun cdv A outer s H vs Q E hr h => ⟨t_folded g (WF E), ?_, lift_body (by decide) (d_folded (g := g)) h⟩)
  have tk : Takes (cxOf (L2.CX P w) P w g.K mg base nm_folded "folded" (defScope s_folded) f cdv A outer s H E) (WF E) := takes_of rfl rfl rfl rfl
  skip
  exact (pss_cons (ps_expr (pe_c c_look_text hr (by decide) rfl tk (pa_cons (pv 0) (pa_cons (pe_gi (by rfl) T.c_MOST_ROW) pa_nil)))) (pss_one (ps_ret (pe_bm PySem.F.plainAttrs_str PySem.F.slot_str_join PySem.F.type_str_join mt_joinD (pe_strN (by decide +kernel)) (pa_cons (pe_lc (own := [("word", 1)]) (g := (gName 1)) (tt := (tTest (tOp (rNeA g.K) (tVar 1) (tC (.str (S [])))))) (te := (tVar 1)) rfl sc_folded.nd (pi_list (pe_bm PySem.F.plainAttrs_str PySem.F.slot_str_split PySem.F.type_str_split mt_splitD (pe_bm0 PySem.F.plainAttrs_str PySem.F.slot_str_lower PySem.F.type_str_lower mt_lowerD (pv 0)) (pa_cons (pe_strN (by decide +kernel)) pa_nil))) (blkOk_by (own := [("word", 1)]) (N := nm_folded) (sc := defScope s_folded) (by decide +kernel)) (fun _ _ _ _ _ => (pg_name (i := 1) sc_folded.nd rfl (by first | exact Or.inl rfl | exact Or.inr rfl))) (fun _ _ _ _ _ => (pts_one (pt_cmpR (op_neA hr.units) (pv 1) (pe_strN (by decide +kernel)) (nomark _)))) (fun _ _ _ _ _ => (pv 1))) pa_nil)))))
abbrev s_rank : Stmt := top 11
theorem sc_rank : FnScope nm_rank ["row", "query"] (defScope s_rank) := C8.fnScope_by (by decide +kernel)
theorem ok_rank {P : Program} {w : World} {mg : Str → Option Value} {base : Heap} {g : G} {f : Addr} {fd : FuncData} (F : Fun g.K "rank" "rank" s_rank f fd) (T : Txt w mg g) (c_look_text : Cal P w g.K mg base 1 "look_text" (sp_look_text g)) (c_folded : Cal P w g.K mg base 2 "folded" (sp_folded g)) : FnOk P w g.K mg base (L2.CX P w) 3 f fd ["row", "query"] (sp_rank g) := by
  refine F.okX sc_rank (fun vs H Q E h => lift_len h) (fun cdv A outer s H vs Q E hr h => ⟨t_rank g (WF E), ?_, lift_body (by decide) (d_rank (g := g)) h⟩)
  have tk : Takes (cxOf (L2.CX P w) P w g.K mg base nm_rank "rank" (defScope s_rank) f cdv A outer s H E) (WF E) := takes_of rfl rfl rfl rfl
  skip
  exact (pss_cons (ps_expr (pe_c c_look_text hr (by decide) rfl tk (pa_cons (pv 1) (pa_cons (pe_gi (by rfl) T.c_MOST_TYPED) pa_nil)))) (pss_cons (ps_set (i := 2) sc_rank.nd rfl (by first | exact Or.inl rfl | exact Or.inr rfl) (pe_c c_folded hr (by decide) rfl tk (pa_cons (pv 0) pa_nil))) (pss_cons (ps_set (i := 3) sc_rank.nd rfl (by first | exact Or.inl rfl | exact Or.inr rfl) (pe_c c_folded hr (by decide) rfl tk (pa_cons (pv 1) pa_nil))) (pss_cons (ps_if (pt_cmpR (op_eqA hr.units) (pv 2) (pv 3) (nomark _)) (pss_one (ps_ret pe_int)) pss_nil) (pss_cons (ps_if (pt_val (pe_bm PySem.F.plainAttrs_str PySem.F.slot_str_startswith PySem.F.type_str_startswith mt_startsD (pv 2) (pa_cons (pv 3) pa_nil))) (pss_one (ps_ret pe_int)) pss_nil) (pss_cons (ps_if (pt_cmpR op_inA (pe_op op_addA (pe_strN (by decide +kernel)) (pv 3)) (pv 2) (by rfl)) (pss_one (ps_ret pe_int)) pss_nil) (pss_one (ps_ret (pe_ifExp (pt_cmpR op_inA (pv 3) (pv 2) (by rfl)) pe_int pe_non)))))))))
abbrev s_look_many : Stmt := top 15
theorem sc_look_many : FnScope nm_look_many ["many"] (defScope s_look_many) := C8.fnScope_by (by decide +kernel)
theorem ok_look_many {P : Program} {w : World} {mg : Str → Option Value} {base : Heap} {g : G} {f : Addr} {fd : FuncData} (F : Fun g.K "look_many" "look_many" s_look_many f fd) (T : Txt w mg g)  : FnOk P w g.K mg base (L2.CX P w) 1 f fd ["many"] (sp_look_many g) := by
  refine F.okX sc_look_many (fun vs H Q E h => lift_len h) (fun cdv A outer s H vs Q E hr h => ⟨t_look_many g (WF E), ?_, lift_body (by decide) (d_look_many (g := g)) h⟩)
  have tk : Takes (cxOf (L2.CX P w) P w g.K mg base nm_look_many "look_many" (defScope s_look_many) f cdv A outer s H E) (WF E) := takes_of rfl rfl rfl rfl
  skip
  exact (pss_one (ps_if (pt_not (pt_chain op_le op_le pe_int (pv 0) (pe_gi (by rfl) T.c_MOST_ANSWER))) (pss_one (ps_raiseC T.x_BadNumber rfl tk rfl)) pss_nil))
abbrev s_best : Stmt := top 16
theorem sc_best : FnScope nm_best ["rows", "query", "many"] (defScope s_best) := C8.fnScope_by (by decide +kernel)
theorem ok_best {P : Program} {w : World} {mg : Str → Option Value} {base : Heap} {g : G} {f : Addr} {fd : FuncData} (F : Fun g.K "best" "best" s_best f fd) (T : Txt w mg g) (c_folded : Cal P w g.K mg base 2 "folded" (sp_folded g)) (c_rank : Cal P w g.K mg base 3 "rank" (sp_rank g)) : FnOk P w g.K mg base (L2.CX P w) 4 f fd ["rows", "query", "many"] (sp_best g) := by
  refine F.okX sc_best (fun vs H Q E h => lift_len h) (fun cdv A outer s H vs Q E hr h => ⟨t_best g (WF E), ?_, lift_body (by decide) (d_best (g := g)) h⟩)
  have tk : Takes (cxOf (L2.CX P w) P w g.K mg base nm_best "best" (defScope s_best) f cdv A outer s H E) (WF E) := takes_of rfl rfl rfl rfl
  skip
  exact (pss_cons (by first | exact (ps_setLc (i := 3) (own := [("row", 4)]) (g := (gName 4)) (tt := tYes) (te := (tTup (tCons (tCallS (sp_rank g) (WE W0) (tCons (tVar 4) (tCons (tVar 1) tNil))) (tCons (tCallS (sp_folded g) (WE W0) (tCons (tVar 4) tNil)) (tCons (tVar 4) tNil))))) rfl sc_best.nd rfl rfl (sw_true rfl rfl rfl (by decide +kernel)) (pi_list (pv 0)) (blkOk_by (own := [("row", 4)]) (N := nm_best) (sc := defScope s_best) (by decide +kernel)) (fun _ _ _ _ _ => (pg_name (i := 4) sc_best.nd rfl (by first | exact Or.inl rfl | exact Or.inr rfl))) (fun _ _ _ _ _ => pts_nil) (fun _ _ _ _ _ => (pe_tup (pa_cons (pe_c c_rank hr (by decide) rfl takes0 (pa_cons (pv 4) (pa_cons (pv 1) pa_nil))) (pa_cons (pe_c c_folded hr (by decide) rfl takes0 (pa_cons (pv 4) pa_nil)) (pa_cons (pv 4) pa_nil)))))) | exact (ps_set (i := 3) sc_best.nd rfl (by first | exact Or.inl rfl | exact Or.inr rfl) (pe_lc (own := [("row", 4)]) (g := (gName 4)) (tt := tYes) (te := (tTup (tCons (tCallS (sp_rank g) (WE W0) (tCons (tVar 4) (tCons (tVar 1) tNil))) (tCons (tCallS (sp_folded g) (WE W0) (tCons (tVar 4) tNil)) (tCons (tVar 4) tNil))))) rfl sc_best.nd (pi_list (pv 0)) (blkOk_by (own := [("row", 4)]) (N := nm_best) (sc := defScope s_best) (by decide +kernel)) (fun _ _ _ _ _ => (pg_name (i := 4) sc_best.nd rfl (by first | exact Or.inl rfl | exact Or.inr rfl))) (fun _ _ _ _ _ => pts_nil) (fun _ _ _ _ _ => (pe_tup (pa_cons (pe_c c_rank hr (by decide) rfl takes0 (pa_cons (pv 4) (pa_cons (pv 1) pa_nil))) (pa_cons (pe_c c_folded hr (by decide) rfl takes0 (pa_cons (pv 4) pa_nil)) (pa_cons (pv 4) pa_nil)))))))) (pss_one (ps_ret (pe_slice sl_A (pe_lc (own := [("fits", 5), ("small", 6), ("row", 4)]) (g := (gTup g.K 3 (gCons (gName 5) (gCons (gName 6) (gCons (gName 4) gNil))))) (tt := tYes) (te := (tVar 4)) rfl sc_best.nd (pi_list (pe_callB (cr_sortA hr.units) (by rfl) T.b_sorted (by decide +kernel) (pa_cons (pe_lc (own := [("one", 7)]) (g := (gName 7)) (tt := (tTest (tOp (rNotNo) (tOp (rIx g.K) (tVar 7) (tC (.int 0))) (tC .non)))) (te := (tVar 7)) rfl sc_best.nd (pi_list (pv 3)) (blkOk_by (own := [("one", 7)]) (N := nm_best) (sc := defScope s_best) (by decide +kernel)) (fun _ _ _ _ _ => (pg_name (i := 7) sc_best.nd rfl (by first | exact Or.inl rfl | exact Or.inr rfl))) (fun _ _ _ _ _ => (pts_one (pt_cmpR op_notNo (pe_ix ix_seq (pv 7) pe_int (fun _ _ => rfl)) pe_non (nomark _)))) (fun _ _ _ _ _ => (pv 7))) pa_nil))) (blkOk_by (own := [("fits", 5), ("small", 6), ("row", 4)]) (N := nm_best) (sc := defScope s_best) (by decide +kernel)) (fun _ _ _ _ _ => (pg_tup rfl (pgs_cons (pg_name (i := 5) sc_best.nd rfl (by first | exact Or.inl rfl | exact Or.inr rfl)) (pgs_cons (pg_name (i := 6) sc_best.nd rfl (by first | exact Or.inl rfl | exact Or.inr rfl)) (pgs_cons (pg_name (i := 4) sc_best.nd rfl (by first | exact Or.inl rfl | exact Or.inr rfl)) pgs_nil))))) (fun _ _ _ _ _ => pts_nil) (fun _ _ _ _ _ => (pv 4))) po_none (po_some (pv 2))))))
abbrev s_Store___init__ : Stmt := inClass (top 17) 0
theorem sc_Store___init__ : FnScope nm_Store___init__ ["self"] (defScope s_Store___init__) := C8.fnScope_by (by decide +kernel)
theorem ok_Store___init__ {P : Program} {w : World} {mg : Str → Option Value} {base : Heap} {g : G} {f : Addr} {fd : FuncData} (F : Fun g.K "__init__" "Store.__init__" s_Store___init__ f fd) (T : Txt w mg g)  : FnOk P w g.K mg base (L2.CX P w) 1 f fd ["self"] (sp_Store___init__ g) := by
  refine F.okX sc_Store___init__ (fun vs H Q E h => lift_len h) (fun cdv A outer s H vs Q E hr h => ⟨t_Store___init__ g (WF E), ?_, lift_body (by decide) (d_Store___init__ (g := g) T.fl_Store) h⟩)
  have tk : Takes (cxOf (L2.CX P w) P w g.K mg base nm_Store___init__ "Store.__init__" (defScope s_Store___init__) f cdv A outer s H E) (WF E) := takes_of rfl rfl rfl rfl
  skip
  exact (pss_one (ps_fld (pv 0) (pe_lst pa_nil) rfl))
abbrev s_Store_add : Stmt := inClass (top 17) 1
theorem sc_Store_add : FnScope nm_Store_add ["self", "row"] (defScope s_Store_add) := C8.fnScope_by (by decide +kernel)
theorem ok_Store_add {P : Program} {w : World} {mg : Str → Option Value} {base : Heap} {g : G} {f : Addr} {fd : FuncData} (F : Fun g.K "add" "Store.add" s_Store_add f fd) (T : Txt w mg g) (c_look_text : Cal P w g.K mg base 1 "look_text" (sp_look_text g)) (c_folded : Cal P w g.K mg base 2 "folded" (sp_folded g)) : FnOk P w g.K mg base (L2.CX P w) 3 f fd ["self", "row"] (sp_Store_add g) := by
  refine F.okX sc_Store_add (fun vs H Q E h => lift_len h) (fun cdv A outer s H vs Q E hr h => ⟨t_Store_add g (WF E), ?_, lift_body (by decide) (d_Store_add (g := g) T.fl_Store) h⟩)
  have tk : Takes (cxOf (L2.CX P w) P w g.K mg base nm_Store_add "Store.add" (defScope s_Store_add) f cdv A outer s H E) (WF E) := takes_of rfl rfl rfl rfl
  skip
  exact (pss_cons (ps_expr (pe_c c_look_text hr (by decide) rfl tk (pa_cons (pv 1) (pa_cons (pe_gi (by rfl) T.c_MOST_ROW) pa_nil)))) (pss_cons (ps_if (PW.pt (pw_or (pt_cmpR (op_eqA hr.units) (pe_c c_folded hr (by decide) rfl tk (pa_cons (pv 1) pa_nil)) (pe_strN (by decide +kernel)) (nomark _)) (pw_or1 (pt_cmpR op_inA (pv 1) (pe_fld (pv 0) rfl) (by rfl))))) (pss_one (ps_raiseC T.x_BadText rfl tk rfl)) pss_nil) (pss_cons (ps_if (pt_cmpR (op_eqA hr.units) (pe_callB cr_lenA (by rfl) T.b_len (by decide +kernel) (pa_cons (pe_fld (pv 0) rfl) pa_nil)) (pe_gi (by rfl) T.c_MOST_ROWS) (nomark _)) (pss_one (ps_raiseC T.x_BadNumber rfl tk rfl)) pss_nil) (pss_one (ps_expr (pe_bm PySem.F.plainAttrs_list PySem.F.slot_list_append PySem.F.type_list_append mt_append (pe_fld (pv 0) rfl) (pa_cons (pv 1) pa_nil)))))))
abbrev s_Store_remove : Stmt := inClass (top 17) 2
theorem sc_Store_remove : FnScope nm_Store_remove ["self", "row"] (defScope s_Store_remove) := C8.fnScope_by (by decide +kernel)
theorem ok_Store_remove {P : Program} {w : World} {mg : Str → Option Value} {base : Heap} {g : G} {f : Addr} {fd : FuncData} (F : Fun g.K "remove" "Store.remove" s_Store_remove f fd) (T : Txt w mg g)  : FnOk P w g.K mg base (L2.CX P w) 1 f fd ["self", "row"] (sp_Store_remove g) := by
  refine F.okX sc_Store_remove (fun vs H Q E h => lift_len h) (fun cdv A outer s H vs Q E hr h => ⟨t_Store_remove g (WF E), ?_, lift_body (by decide) (d_Store_remove (g := g) T.fl_Store) h⟩)
  have tk : Takes (cxOf (L2.CX P w) P w g.K mg base nm_Store_remove "Store.remove" (defScope s_Store_remove) f cdv A outer s H E) (WF E) := takes_of rfl rfl rfl rfl
  skip
  exact (pss_cons (ps_if (pt_cmpR op_ninA (pv 1) (pe_fld (pv 0) rfl) (by rfl)) (pss_one (ps_raiseC T.x_BadText rfl tk rfl)) pss_nil) (pss_one (ps_expr (pe_bm PySem.F.plainAttrs_list PySem.F.slot_list_remove PySem.F.type_list_remove mt_remF (pe_fld (pv 0) rfl) (pa_cons (pv 1) pa_nil)))))
abbrev s_Store_answer : Stmt := inClass (top 17) 4
theorem sc_Store_answer : FnScope nm_Store_answer ["self", "query", "many"] (defScope s_Store_answer) := C8.fnScope_by (by decide +kernel)
theorem ok_Store_answer {P : Program} {w : World} {mg : Str → Option Value} {base : Heap} {g : G} {f : Addr} {fd : FuncData} (F : Fun g.K "answer" "Store.answer" s_Store_answer f fd) (T : Txt w mg g) (c_look_many : Cal P w g.K mg base 1 "look_many" (sp_look_many g)) (c_look_text : Cal P w g.K mg base 1 "look_text" (sp_look_text g)) (c_best : Cal P w g.K mg base 4 "best" (sp_best g)) : FnOk P w g.K mg base (L2.CX P w) 5 f fd ["self", "query", "many"] (sp_Store_answer g) := by
  refine F.okX sc_Store_answer (fun vs H Q E h => lift_len h) (fun cdv A outer s H vs Q E hr h => ⟨t_Store_answer g (WF E), ?_, lift_body (by decide) (d_Store_answer (g := g) T.fl_Store) h⟩)
  have tk : Takes (cxOf (L2.CX P w) P w g.K mg base nm_Store_answer "Store.answer" (defScope s_Store_answer) f cdv A outer s H E) (WF E) := takes_of rfl rfl rfl rfl
  skip
  exact (pss_cons (ps_expr (pe_c c_look_many hr (by decide) rfl tk (pa_cons (pv 2) pa_nil))) (pss_cons (ps_expr (pe_c c_look_text hr (by decide) rfl tk (pa_cons (pv 1) (pa_cons (pe_gi (by rfl) T.c_MOST_TYPED) pa_nil)))) (pss_cons (ps_set (i := 3) sc_Store_answer.nd rfl (by first | exact Or.inl rfl | exact Or.inr rfl) (pe_c c_best hr (by decide) rfl tk (pa_cons (pe_fld (pv 0) rfl) (pa_cons (pv 1) (pa_cons (pe_callB cr_lenA (by rfl) T.b_len (by decide +kernel) (pa_cons (pe_fld (pv 0) rfl) pa_nil)) pa_nil))))) (pss_one (ps_ret (pe_tup (pa_cons (pe_slice sl_A (pv 3) po_none (po_some (pv 2))) (pa_cons (pe_cmpR op_le (pe_callB cr_lenA (by rfl) T.b_len (by decide +kernel) (pa_cons (pv 3) pa_nil)) (pv 2) (nomark _)) pa_nil))))))))
abbrev s_Asker___init__ : Stmt := inClass (top 24) 0
theorem sc_Asker___init__ : FnScope nm_Asker___init__ ["self", "store", "road", "shelf", "many", "pause", "asks", "patience"] (defScope s_Asker___init__) := C8.fnScope_by (by decide +kernel)
theorem ok_Asker___init__ {P : Program} {w : World} {mg : Str → Option Value} {base : Heap} {g : G} {f : Addr} {fd : FuncData} (F : Fun g.K "__init__" "Asker.__init__" s_Asker___init__ f fd) (T : Txt w mg g) (c_look_many : Cal P w g.K mg base 1 "look_many" (sp_look_many g)) : FnOk P w g.K mg base (L2.CX P w) 2 f fd ["self", "store", "road", "shelf", "many", "pause", "asks", "patience"] (sp_Asker___init__ g) := by
  refine F.okX sc_Asker___init__ (fun vs H Q E h => lift_len h) (fun cdv A outer s H vs Q E hr h => ⟨t_Asker___init__ g (WF E), ?_, lift_body (by decide) (d_Asker___init__ (g := g) T.fl_Asker) h⟩)
  have tk : Takes (cxOf (L2.CX P w) P w g.K mg base nm_Asker___init__ "Asker.__init__" (defScope s_Asker___init__) f cdv A outer s H E) (WF E) := takes_of rfl rfl rfl rfl
  skip
  exact (pss_cons (ps_expr (pe_c c_look_many hr (by decide) rfl tk (pa_cons (pv 4) pa_nil))) (pss_cons (ps_if (PW.pt (pw_or (pt_not (pt_chain op_le op_le pe_int (pv 5) (pe_gi (by rfl) T.c_MOST_PAUSE))) (pw_or (pt_not (pt_chain op_le op_le pe_int (pv 6) (pe_gi (by rfl) T.c_MOST_ASKS))) (pw_or1 (pt_not (pt_chain op_le op_le pe_int (pv 7) (pe_gi (by rfl) T.c_MOST_PATIENCE))))))) (pss_one (ps_raiseC T.x_BadNumber rfl tk rfl)) pss_nil) (pss_cons (ps_fld (pv 0) (pv 1) rfl) (pss_cons (ps_fld (pv 0) (pv 2) rfl) (pss_cons (ps_fld (pv 0) (pv 3) rfl) (pss_cons (ps_fld (pv 0) (pv 4) rfl) (pss_cons (ps_fld (pv 0) (pv 5) rfl) (pss_cons (ps_fld (pv 0) (pv 6) rfl) (pss_cons (ps_fld (pv 0) (pv 7) rfl) (pss_cons (ps_fld (pv 0) pe_int rfl) (pss_cons (ps_fld (pv 0) (pe_strN (by decide +kernel)) rfl) (pss_cons (ps_fld (pv 0) pe_int rfl) (pss_cons (ps_fld (pv 0) pe_bl rfl) (pss_cons (ps_fld (pv 0) pe_int rfl) (pss_cons (ps_fld (pv 0) pe_dnewK rfl) (pss_cons (ps_fld (pv 0) pe_dnewK rfl) (pss_cons (ps_fld (pv 0) pe_non rfl) (pss_one (ps_fld (pv 0) (pe_lst pa_nil) rfl)))))))))))))))))))
abbrev s_Asker_put : Stmt := inClass (top 24) 3
theorem sc_Asker_put : FnScope nm_Asker_put ["self", "text"] (defScope s_Asker_put) := C8.fnScope_by (by decide +kernel)
theorem ok_Asker_put {P : Program} {w : World} {mg : Str → Option Value} {base : Heap} {g : G} {f : Addr} {fd : FuncData} (F : Fun g.K "put" "Asker.put" s_Asker_put f fd) (T : Txt w mg g) (c_look_text : Cal P w g.K mg base 1 "look_text" (sp_look_text g)) (c_folded : Cal P w g.K mg base 2 "folded" (sp_folded g)) (c_Asker_drop_other : Met P w g.K mg base 3 g.cK "drop_other" (sp_Asker_drop_other g)) (c_Asker_look_near : Met P w g.K mg base 6 g.cK "look_near" (sp_Asker_look_near g)) (c_Asker_ask_if_due : Met P w g.K mg base 3 g.cK "ask_if_due" (sp_Asker_ask_if_due g)) : FnOk P w g.K mg base (L2.CX P w) 7 f fd ["self", "text"] (sp_Asker_put g) := by
  refine F.okX sc_Asker_put (fun vs H Q E h => lift_len h) (fun cdv A outer s H vs Q E hr h => ⟨t_Asker_put g (WF E), ?_, lift_body (by decide) (d_Asker_put (g := g) T.fl_Asker) h⟩)
  have tk : Takes (cxOf (L2.CX P w) P w g.K mg base nm_Asker_put "Asker.put" (defScope s_Asker_put) f cdv A outer s H E) (WF E) := takes_of rfl rfl rfl rfl
  skip
  exact (pss_cons (ps_expr (pe_c c_look_text hr (by decide) rfl tk (pa_cons (pv 1) (pa_cons (pe_gi (by rfl) T.c_MOST_TYPED) pa_nil)))) (pss_cons (ps_if (pt_cmpR (op_neA hr.units) (pe_c c_folded hr (by decide) rfl tk (pa_cons (pv 1) pa_nil)) (pe_c c_folded hr (by decide) rfl tk (pa_cons (pe_fld (pv 0) rfl) pa_nil)) (nomark _)) (pss_cons (ps_expr (pe_mt c_Asker_drop_other hr (by decide) tk (pv 0) (pa_cons (pe_c c_folded hr (by decide) rfl tk (pa_cons (pv 1) pa_nil)) pa_nil))) (pss_cons (ps_fld (pv 0) (pe_fld (pv 0) rfl) rfl) (pss_cons (ps_fld (pv 0) (pe_cmpR (op_neA hr.units) (pe_c c_folded hr (by decide) rfl tk (pa_cons (pv 1) pa_nil)) (pe_strN (by decide +kernel)) (nomark _)) rfl) (pss_one (ps_fld (pv 0) pe_int rfl))))) pss_nil) (pss_cons (ps_fld (pv 0) (pv 1) rfl) (pss_cons (ps_expr (pe_mt0 c_Asker_look_near hr (by decide) tk (pv 0))) (pss_one (ps_expr (pe_mt0 c_Asker_ask_if_due hr (by decide) tk (pv 0))))))))
abbrev s_Asker_key : Stmt := inClass (top 24) 4
theorem sc_Asker_key : FnScope nm_Asker_key ["self", "sign"] (defScope s_Asker_key) := C8.fnScope_by (by decide +kernel)
theorem ok_Asker_key {P : Program} {w : World} {mg : Str → Option Value} {base : Heap} {g : G} {f : Addr} {fd : FuncData} (F : Fun g.K "key" "Asker.key" s_Asker_key f fd) (T : Txt w mg g) (c_Asker_put : Met P w g.K mg base 7 g.cK "put" (sp_Asker_put g)) : FnOk P w g.K mg base (L2.CX P w) 8 f fd ["self", "sign"] (sp_Asker_key g) := by
  refine F.okX sc_Asker_key (fun vs H Q E h => lift_len h) (fun cdv A outer s H vs Q E hr h => ⟨t_Asker_key g (WF E), ?_, lift_body (by decide) (d_Asker_key (g := g) T.fl_Asker) h⟩)
  have tk : Takes (cxOf (L2.CX P w) P w g.K mg base nm_Asker_key "Asker.key" (defScope s_Asker_key) f cdv A outer s H E) (WF E) := takes_of rfl rfl rfl rfl
  skip
  exact (pss_one (ps_expr (pe_mt c_Asker_put hr (by decide) tk (pv 0) (pa_cons (pe_op op_addA (pe_fld (pv 0) rfl) (pv 1)) pa_nil))))
abbrev s_Asker_rub : Stmt := inClass (top 24) 5
theorem sc_Asker_rub : FnScope nm_Asker_rub ["self"] (defScope s_Asker_rub) := C8.fnScope_by (by decide +kernel)
theorem ok_Asker_rub {P : Program} {w : World} {mg : Str → Option Value} {base : Heap} {g : G} {f : Addr} {fd : FuncData} (F : Fun g.K "rub" "Asker.rub" s_Asker_rub f fd) (T : Txt w mg g) (c_Asker_put : Met P w g.K mg base 7 g.cK "put" (sp_Asker_put g)) : FnOk P w g.K mg base (L2.CX P w) 8 f fd ["self"] (sp_Asker_rub g) := by
  refine F.okX sc_Asker_rub (fun vs H Q E h => lift_len h) (fun cdv A outer s H vs Q E hr h => ⟨t_Asker_rub g (WF E), ?_, lift_body (by decide) (d_Asker_rub (g := g) T.fl_Asker) h⟩)
  have tk : Takes (cxOf (L2.CX P w) P w g.K mg base nm_Asker_rub "Asker.rub" (defScope s_Asker_rub) f cdv A outer s H E) (WF E) := takes_of rfl rfl rfl rfl
  skip
  exact (pss_one (ps_expr (pe_mt c_Asker_put hr (by decide) tk (pv 0) (pa_cons (pe_slice sl_A (pe_fld (pv 0) rfl) po_none (po_some (pe_un un_neg pe_int))) pa_nil))))
abbrev s_Asker_drop_other : Stmt := inClass (top 24) 6
theorem sc_Asker_drop_other : FnScope nm_Asker_drop_other ["self", "wanted"] (defScope s_Asker_drop_other) := C8.fnScope_by (by decide +kernel)
theorem ok_Asker_drop_other {P : Program} {w : World} {mg : Str → Option Value} {base : Heap} {g : G} {f : Addr} {fd : FuncData} (F : Fun g.K "drop_other" "Asker.drop_other" s_Asker_drop_other f fd) (T : Txt w mg g) (c_folded : Cal P w g.K mg base 2 "folded" (sp_folded g)) : FnOk P w g.K mg base (L2.CX P w) 3 f fd ["self", "wanted"] (sp_Asker_drop_other g) := by
  refine F.okX sc_Asker_drop_other (fun vs H Q E h => lift_len h) (fun cdv A outer s H vs Q E hr h => ⟨t_Asker_drop_other g (WF E), ?_, lift_body (by decide) (d_Asker_drop_other (g := g) T.fl_Asker) h⟩)
  have tk : Takes (cxOf (L2.CX P w) P w g.K mg base nm_Asker_drop_other "Asker.drop_other" (defScope s_Asker_drop_other) f cdv A outer s H E) (WF E) := takes_of rfl rfl rfl rfl
  have pw_own : PassesOwn (model P w) (cxOf (L2.CX P w) P w g.K mg base nm_Asker_drop_other "Asker.drop_other" (defScope s_Asker_drop_other) f cdv A outer s H E).A (cxOf (L2.CX P w) P w g.K mg base nm_Asker_drop_other "Asker.drop_other" (defScope s_Asker_drop_other) f cdv A outer s H E).env (cxOf (L2.CX P w) P w g.K mg base nm_Asker_drop_other "Asker.drop_other" (defScope s_Asker_drop_other) f cdv A outer s H E).xe := passes_of rfl
  exact (pss_one (ps_for pw_own rfl (pi_list (pe_callTy (cr_listK rfl) (by rfl) T.b_list (by decide +kernel) (pa_cons (pe_keysA (pe_fld (pv 0) rfl)) pa_nil))) (pg_name (i := 2) sc_Asker_drop_other.nd rfl (by first | exact Or.inl rfl | exact Or.inr rfl)) (pss_one (ps_if (pt_cmpR (op_neA hr.units) (pe_c c_folded hr (by decide) rfl tk (pa_cons (pe_dget (hu_of hr) (pe_fld (pv 0) rfl) (pv 2) (fun _ _ => rfl)) pa_nil)) (pv 1) (nomark _)) (pss_cons (ps_expr (pe_dpop1 (pe_fld (pv 0) rfl) (pv 2) ⟨rfl, rfl, rfl, rfl⟩)) (pss_one (ps_expr (pe_bm PySem.F.plainAttrs_list PySem.F.slot_list_append PySem.F.type_list_append mt_append (pe_fld (pv 0) rfl) (pa_cons (pe_tup (pa_cons (pe_strN (by decide +kernel)) (pa_cons (pv 2) pa_nil))) pa_nil))))) pss_nil))))
abbrev s_Asker_look_near : Stmt := inClass (top 24) 7
theorem sc_Asker_look_near : FnScope nm_Asker_look_near ["self"] (defScope s_Asker_look_near) := C8.fnScope_by (by decide +kernel)
theorem ok_Asker_look_near {P : Program} {w : World} {mg : Str → Option Value} {base : Heap} {g : G} {f : Addr} {fd : FuncData} (F : Fun g.K "look_near" "Asker.look_near" s_Asker_look_near f fd) (T : Txt w mg g) (c_folded : Cal P w g.K mg base 2 "folded" (sp_folded g)) (c_Shelf_get : Met P w g.K mg base 5 g.cH "get" (sp_Shelf_get g)) (c_Asker_show : Met P w g.K mg base 4 g.cK "show" (sp_Asker_show g)) (c_Asker_is_fresh : Met P w g.K mg base 3 g.cK "is_fresh" (sp_Asker_is_fresh g)) (c_best : Cal P w g.K mg base 4 "best" (sp_best g)) : FnOk P w g.K mg base (L2.CX P w) 6 f fd ["self"] (sp_Asker_look_near g) := by
  refine F.okX sc_Asker_look_near (fun vs H Q E h => lift_len h) (fun cdv A outer s H vs Q E hr h => ⟨t_Asker_look_near g (WF E), ?_, lift_body (by decide) (d_Asker_look_near (g := g) T.fl_Asker) h⟩)
  have tk : Takes (cxOf (L2.CX P w) P w g.K mg base nm_Asker_look_near "Asker.look_near" (defScope s_Asker_look_near) f cdv A outer s H E) (WF E) := takes_of rfl rfl rfl rfl
  skip
  exact (pss_cons (ps_if (pt_cmpR (op_eqA hr.units) (pe_c c_folded hr (by decide) rfl tk (pa_cons (pe_fld (pv 0) rfl) pa_nil)) (pe_strN (by decide +kernel)) (nomark _)) (pss_cons (ps_fld (pv 0) pe_bl rfl) (pss_cons (ps_fld (pv 0) pe_non rfl) (pss_one ps_retN))) pss_nil) (pss_cons (ps_set (i := 1) sc_Asker_look_near.nd rfl (by first | exact Or.inl rfl | exact Or.inr rfl) (pe_mt c_Shelf_get hr (by decide) tk (pe_fld (pv 0) rfl) (pa_cons (pe_fld (pv 0) rfl) (pa_cons (pe_fld (pv 0) rfl) (pa_cons (pe_fld (pv 0) rfl) pa_nil))))) (pss_one (ps_if (pt_cmpR op_notNo (pv 1) pe_non (nomark _)) (pss_one (ps_expr (pe_mt c_Asker_show hr (by decide) tk (pv 0) (pa_cons (pv 1) pa_nil)))) (pss_one (ps_if (PW.pt (pw_and (pt_cmpR op_notNo (pe_fld (pv 0) rfl) pe_non (nomark _)) (pw_and1 (pt_not (pt_val (pe_mt0 c_Asker_is_fresh hr (by decide) tk (pv 0))))))) (pss_cons (ps_set (i := 2) sc_Asker_look_near.nd rfl (by first | exact Or.inl rfl | exact Or.inr rfl) (pe_c c_best hr (by decide) rfl tk (pa_cons (pe_ix ix_seq (pe_fld (pv 0) rfl) pe_int (fun _ _ => rfl)) (pa_cons (pe_fld (pv 0) rfl) (pa_cons (pe_fld (pv 0) rfl) pa_nil))))) (pss_one (ps_fld (pv 0) (pe_ifExp (pt_truth (pv 2) (by intro _; rfl)) (pe_tup (pa_cons (pe_ix ix_seq (pe_fld (pv 0) rfl) pe_int (fun _ _ => rfl)) (pa_cons (pv 2) (pa_cons pe_bl pa_nil)))) pe_non) rfl))) pss_nil))))))
abbrev s_Asker_is_fresh : Stmt := inClass (top 24) 8
theorem sc_Asker_is_fresh : FnScope nm_Asker_is_fresh ["self"] (defScope s_Asker_is_fresh) := C8.fnScope_by (by decide +kernel)
theorem ok_Asker_is_fresh {P : Program} {w : World} {mg : Str → Option Value} {base : Heap} {g : G} {f : Addr} {fd : FuncData} (F : Fun g.K "is_fresh" "Asker.is_fresh" s_Asker_is_fresh f fd) (T : Txt w mg g) (c_folded : Cal P w g.K mg base 2 "folded" (sp_folded g)) : FnOk P w g.K mg base (L2.CX P w) 3 f fd ["self"] (sp_Asker_is_fresh g) := by
  refine F.okX sc_Asker_is_fresh (fun vs H Q E h => lift_len h) (fun cdv A outer s H vs Q E hr h => ⟨t_Asker_is_fresh g (WF E), ?_, lift_body (by decide) (d_Asker_is_fresh (g := g) T.fl_Asker) h⟩)
  have tk : Takes (cxOf (L2.CX P w) P w g.K mg base nm_Asker_is_fresh "Asker.is_fresh" (defScope s_Asker_is_fresh) f cdv A outer s H E) (WF E) := takes_of rfl rfl rfl rfl
  skip
  exact (pss_one (ps_ret (pe_and (pe_cmpR (op_eqA hr.units) (pe_ix ix_seq (pe_fld (pv 0) rfl) pe_int (fun _ _ => rfl)) (pe_c c_folded hr (by decide) rfl tk (pa_cons (pe_fld (pv 0) rfl) pa_nil)) (nomark _)) (pe_one (pe_not (pe_ix ix_seq (pe_fld (pv 0) rfl) pe_int (fun _ _ => rfl)))))))
abbrev s_Asker_show : Stmt := inClass (top 24) 9
theorem sc_Asker_show : FnScope nm_Asker_show ["self", "some"] (defScope s_Asker_show) := C8.fnScope_by (by decide +kernel)
theorem ok_Asker_show {P : Program} {w : World} {mg : Str → Option Value} {base : Heap} {g : G} {f : Addr} {fd : FuncData} (F : Fun g.K "show" "Asker.show" s_Asker_show f fd) (T : Txt w mg g) (c_folded : Cal P w g.K mg base 2 "folded" (sp_folded g)) (c_Asker_drop_other : Met P w g.K mg base 3 g.cK "drop_other" (sp_Asker_drop_other g)) : FnOk P w g.K mg base (L2.CX P w) 4 f fd ["self", "some"] (sp_Asker_show g) := by
  refine F.okX sc_Asker_show (fun vs H Q E h => lift_len h) (fun cdv A outer s H vs Q E hr h => ⟨t_Asker_show g (WF E), ?_, lift_body (by decide) (d_Asker_show (g := g) T.fl_Asker) h⟩)
  have tk : Takes (cxOf (L2.CX P w) P w g.K mg base nm_Asker_show "Asker.show" (defScope s_Asker_show) f cdv A outer s H E) (WF E) := takes_of rfl rfl rfl rfl
  skip
  exact (pss_cons (ps_fld (pv 0) (pe_tup (pa_cons (pe_c c_folded hr (by decide) rfl tk (pa_cons (pe_fld (pv 0) rfl) pa_nil)) (pa_cons (pv 1) (pa_cons pe_bl pa_nil)))) rfl) (pss_cons (ps_fld (pv 0) pe_bl rfl) (pss_one (ps_expr (pe_mt c_Asker_drop_other hr (by decide) tk (pv 0) (pa_cons pe_non pa_nil))))))
abbrev s_Asker_ask_if_due : Stmt := inClass (top 24) 10
theorem sc_Asker_ask_if_due : FnScope nm_Asker_ask_if_due ["self"] (defScope s_Asker_ask_if_due) := C8.fnScope_by (by decide +kernel)
theorem ok_Asker_ask_if_due {P : Program} {w : World} {mg : Str → Option Value} {base : Heap} {g : G} {f : Addr} {fd : FuncData} (F : Fun g.K "ask_if_due" "Asker.ask_if_due" s_Asker_ask_if_due f fd) (T : Txt w mg g) (c_Road_send : Met P w g.K mg base 1 g.cR "send" (sp_Road_send g)) (c_folded : Cal P w g.K mg base 2 "folded" (sp_folded g)) : FnOk P w g.K mg base (L2.CX P w) 3 f fd ["self"] (sp_Asker_ask_if_due g) := by
  refine F.okX sc_Asker_ask_if_due (fun vs H Q E h => lift_len h) (fun cdv A outer s H vs Q E hr h => ⟨t_Asker_ask_if_due g (WF E), ?_, lift_body (by decide) (d_Asker_ask_if_due (g := g) T.fl_Asker) h⟩)
  have tk : Takes (cxOf (L2.CX P w) P w g.K mg base nm_Asker_ask_if_due "Asker.ask_if_due" (defScope s_Asker_ask_if_due) f cdv A outer s H E) (WF E) := takes_of rfl rfl rfl rfl
  skip
  exact (pss_cons (ps_set (i := 1) sc_Asker_ask_if_due.nd rfl (by first | exact Or.inl rfl | exact Or.inr rfl) (pe_cmpR op_ge (pe_op op_sub (pe_fld (pv 0) rfl) (pe_fld (pv 0) rfl)) (pe_fld (pv 0) rfl) (nomark _))) (pss_one (ps_if (PW.pt (pw_and (pt_val (pe_fld (pv 0) rfl)) (pw_and (pt_val (pv 1)) (pw_and1 (pt_cmpR op_lt (pe_callB cr_lenA (by rfl) T.b_len (by decide +kernel) (pa_cons (pe_fld (pv 0) rfl) pa_nil)) (pe_fld (pv 0) rfl) (nomark _)))))) (pss_cons (ps_fld (pv 0) pe_bl rfl) (pss_cons (ps_fld (pv 0) (pe_op op_addA (pe_fld (pv 0) rfl) pe_int) rfl) (pss_cons (ps_set (i := 2) sc_Asker_ask_if_due.nd rfl (by first | exact Or.inl rfl | exact Or.inr rfl) (pe_mt c_Road_send hr (by decide) tk (pe_fld (pv 0) rfl) (pa_cons (pe_fld (pv 0) rfl) (pa_cons (pe_fld (pv 0) rfl) pa_nil)))) (pss_cons (ps_dput (hu_of hr) (pe_fld (pv 0) rfl) (pv 2) (pe_fld (pv 0) rfl) rfl) (pss_cons (ps_dput (hu_of hr) (pe_fld (pv 0) rfl) (pv 2) (pe_fld (pv 0) rfl) rfl) (pss_one (ps_expr (pe_bm PySem.F.plainAttrs_list PySem.F.slot_list_append PySem.F.type_list_append mt_append (pe_fld (pv 0) rfl) (pa_cons (pe_tup (pa_cons (pe_strN (by decide +kernel)) (pa_cons (pv 2) (pa_cons (pe_c c_folded hr (by decide) rfl tk (pa_cons (pe_fld (pv 0) rfl) pa_nil)) pa_nil)))) pa_nil))))))))) pss_nil)))
abbrev s_Asker_step : Stmt := inClass (top 24) 11
theorem sc_Asker_step : FnScope nm_Asker_step ["self"] (defScope s_Asker_step) := C8.fnScope_by (by decide +kernel)
theorem ok_Asker_step {P : Program} {w : World} {mg : Str → Option Value} {base : Heap} {g : G} {f : Addr} {fd : FuncData} (F : Fun g.K "step" "Asker.step" s_Asker_step f fd) (T : Txt w mg g) (c_Road_due : Met P w g.K mg base 1 g.cR "due" (sp_Road_due g)) (c_Store_answer : Met P w g.K mg base 5 g.cS "answer" (sp_Store_answer g)) (c_Shelf_put : Met P w g.K mg base 3 g.cH "put" (sp_Shelf_put g)) (c_Asker_show : Met P w g.K mg base 4 g.cK "show" (sp_Asker_show g)) (c_Asker_look_near : Met P w g.K mg base 6 g.cK "look_near" (sp_Asker_look_near g)) (c_Asker_try_again : Met P w g.K mg base 1 g.cK "try_again" (sp_Asker_try_again g)) (c_Asker_ask_if_due : Met P w g.K mg base 3 g.cK "ask_if_due" (sp_Asker_ask_if_due g)) : FnOk P w g.K mg base (L2.CX P w) 7 f fd ["self"] (sp_Asker_step g) := by
  refine F.okX sc_Asker_step (fun vs H Q E h => lift_len h) (fun cdv A outer s H vs Q E hr h => ⟨t_Asker_step g (WF E), ?_, lift_body (by decide) (d_Asker_step (g := g) T.fl_Asker) h⟩)
  have tk : Takes (cxOf (L2.CX P w) P w g.K mg base nm_Asker_step "Asker.step" (defScope s_Asker_step) f cdv A outer s H E) (WF E) := takes_of rfl rfl rfl rfl
  have pw_own : PassesOwn (model P w) (cxOf (L2.CX P w) P w g.K mg base nm_Asker_step "Asker.step" (defScope s_Asker_step) f cdv A outer s H E).A (cxOf (L2.CX P w) P w g.K mg base nm_Asker_step "Asker.step" (defScope s_Asker_step) f cdv A outer s H E).env (cxOf (L2.CX P w) P w g.K mg base nm_Asker_step "Asker.step" (defScope s_Asker_step) f cdv A outer s H E).xe := passes_of rfl
  exact (pss_cons (ps_fld (pv 0) (pe_op op_addA (pe_fld (pv 0) rfl) pe_int) rfl) (pss_cons (ps_for pw_own rfl (pi_list (pe_mt c_Road_due hr (by decide) tk (pe_fld (pv 0) rfl) (pa_cons (pe_fld (pv 0) rfl) pa_nil))) (pg_tup rfl (pgs_cons (pg_name (i := 1) sc_Asker_step.nd rfl (by first | exact Or.inl rfl | exact Or.inr rfl)) (pgs_cons (pg_name (i := 2) sc_Asker_step.nd rfl (by first | exact Or.inl rfl | exact Or.inr rfl)) pgs_nil))) (pss_cons (ps_asg (pe_mt c_Store_answer hr (by decide) tk (pe_fld (pv 0) rfl) (pa_cons (pv 2) (pa_cons (pe_fld (pv 0) rfl) pa_nil))) (pg_tup rfl (pgs_cons (pg_name (i := 3) sc_Asker_step.nd rfl (by first | exact Or.inl rfl | exact Or.inr rfl)) (pgs_cons (pg_name (i := 4) sc_Asker_step.nd rfl (by first | exact Or.inl rfl | exact Or.inr rfl)) pgs_nil)))) (pss_cons (ps_expr (pe_dpop2 (pe_fld (pv 0) rfl) (pv 1) pe_non ⟨rfl, rfl, rfl, rfl⟩)) (pss_cons (ps_expr (pe_mt c_Shelf_put hr (by decide) tk (pe_fld (pv 0) rfl) (pa_cons (pv 2) (pa_cons (pv 3) (pa_cons (pv 4) (pa_cons (pe_fld (pv 0) rfl) pa_nil)))))) (pss_one (ps_if (pt_cmp (pc_din (hu_of hr) (pv 1) (pe_fld (pv 0) rfl))) (pss_cons (ps_expr (pe_dpop1 (pe_fld (pv 0) rfl) (pv 1) ⟨rfl, rfl, rfl, rfl⟩)) (pss_cons (ps_expr (pe_bm PySem.F.plainAttrs_list PySem.F.slot_list_append PySem.F.type_list_append mt_append (pe_fld (pv 0) rfl) (pa_cons (pe_tup (pa_cons (pe_strN (by decide +kernel)) (pa_cons (pv 1) pa_nil))) pa_nil))) (pss_one (ps_expr (pe_mt c_Asker_show hr (by decide) tk (pv 0) (pa_cons (pv 3) pa_nil)))))) (pss_cons (ps_expr (pe_bm PySem.F.plainAttrs_list PySem.F.slot_list_append PySem.F.type_list_append mt_append (pe_fld (pv 0) rfl) (pa_cons (pe_tup (pa_cons (pe_strN (by decide +kernel)) (pa_cons (pv 1) pa_nil))) pa_nil))) (pss_one (ps_expr (pe_mt0 c_Asker_look_near hr (by decide) tk (pv 0))))))))))) (pss_cons (ps_expr (pe_mt0 c_Asker_try_again hr (by decide) tk (pv 0))) (pss_one (ps_expr (pe_mt0 c_Asker_ask_if_due hr (by decide) tk (pv 0)))))))
abbrev s_Asker_try_again : Stmt := inClass (top 24) 12
theorem sc_Asker_try_again : FnScope nm_Asker_try_again ["self"] (defScope s_Asker_try_again) := C8.fnScope_by (by decide +kernel)
theorem ok_Asker_try_again {P : Program} {w : World} {mg : Str → Option Value} {base : Heap} {g : G} {f : Addr} {fd : FuncData} (F : Fun g.K "try_again" "Asker.try_again" s_Asker_try_again f fd) (T : Txt w mg g)  : FnOk P w g.K mg base (L2.CX P w) 1 f fd ["self"] (sp_Asker_try_again g) := by
  refine F.okX sc_Asker_try_again (fun vs H Q E h => lift_len h) (fun cdv A outer s H vs Q E hr h => ⟨t_Asker_try_again g (WF E), ?_, lift_body (by decide) (d_Asker_try_again (g := g) T.fl_Asker) h⟩)
  have tk : Takes (cxOf (L2.CX P w) P w g.K mg base nm_Asker_try_again "Asker.try_again" (defScope s_Asker_try_again) f cdv A outer s H E) (WF E) := takes_of rfl rfl rfl rfl
  have pw_own : PassesOwn (model P w) (cxOf (L2.CX P w) P w g.K mg base nm_Asker_try_again "Asker.try_again" (defScope s_Asker_try_again) f cdv A outer s H E).A (cxOf (L2.CX P w) P w g.K mg base nm_Asker_try_again "Asker.try_again" (defScope s_Asker_try_again) f cdv A outer s H E).env (cxOf (L2.CX P w) P w g.K mg base nm_Asker_try_again "Asker.try_again" (defScope s_Asker_try_again) f cdv A outer s H E).xe := passes_of rfl
  exact (pss_one (ps_for pw_own rfl (pi_list (pe_callB (cr_sortK hr.units rfl) (by rfl) T.b_sorted (by decide +kernel) (pa_cons (pe_keysA (pe_fld (pv 0) rfl)) pa_nil))) (pg_name (i := 1) sc_Asker_try_again.nd rfl (by first | exact Or.inl rfl | exact Or.inr rfl)) (pss_one (ps_if (pt_cmpR op_ge (pe_op op_sub (pe_fld (pv 0) rfl) (pe_dget (hu_of hr) (pe_fld (pv 0) rfl) (pv 1) (fun _ _ => rfl))) (pe_fld (pv 0) rfl) (nomark _)) (pss_cons (ps_expr (pe_dpop1 (pe_fld (pv 0) rfl) (pv 1) ⟨rfl, rfl, rfl, rfl⟩)) (pss_one (ps_if (pt_cmp (pc_din (hu_of hr) (pv 1) (pe_fld (pv 0) rfl))) (pss_cons (ps_expr (pe_dpop1 (pe_fld (pv 0) rfl) (pv 1) ⟨rfl, rfl, rfl, rfl⟩)) (pss_cons (ps_expr (pe_bm PySem.F.plainAttrs_list PySem.F.slot_list_append PySem.F.type_list_append mt_append (pe_fld (pv 0) rfl) (pa_cons (pe_tup (pa_cons (pe_strN (by decide +kernel)) (pa_cons (pv 1) pa_nil))) pa_nil))) (pss_one (ps_fld (pv 0) (pe_cmpR op_lt (pe_fld (pv 0) rfl) (pe_gi (by rfl) T.c_TRIES) (nomark _)) rfl)))) pss_nil))) pss_nil))))
abbrev s_Asker_tick : Stmt := inClass (top 24) 13
theorem sc_Asker_tick : FnScope nm_Asker_tick ["self", "many"] (defScope s_Asker_tick) := C8.fnScope_by (by decide +kernel)
theorem ok_Asker_tick {P : Program} {w : World} {mg : Str → Option Value} {base : Heap} {g : G} {f : Addr} {fd : FuncData} (F : Fun g.K "tick" "Asker.tick" s_Asker_tick f fd) (T : Txt w mg g) (c_Asker_step : Met P w g.K mg base 7 g.cK "step" (sp_Asker_step g)) : FnOk P w g.K mg base (L2.CX P w) 8 f fd ["self", "many"] (sp_Asker_tick g) := by
  refine F.okX sc_Asker_tick (fun vs H Q E h => lift_len h) (fun cdv A outer s H vs Q E hr h => ⟨t_Asker_tick g (WF E), ?_, lift_body (by decide) (d_Asker_tick (g := g) T.fl_Asker) h⟩)
  have tk : Takes (cxOf (L2.CX P w) P w g.K mg base nm_Asker_tick "Asker.tick" (defScope s_Asker_tick) f cdv A outer s H E) (WF E) := takes_of rfl rfl rfl rfl
  have pw_own : PassesOwn (model P w) (cxOf (L2.CX P w) P w g.K mg base nm_Asker_tick "Asker.tick" (defScope s_Asker_tick) f cdv A outer s H E).A (cxOf (L2.CX P w) P w g.K mg base nm_Asker_tick "Asker.tick" (defScope s_Asker_tick) f cdv A outer s H E).env (cxOf (L2.CX P w) P w g.K mg base nm_Asker_tick "Asker.tick" (defScope s_Asker_tick) f cdv A outer s H E).xe := passes_of rfl
  exact (pss_cons (ps_if (pt_not (pt_chain op_le op_le pe_int (pv 1) (pe_gi (by rfl) T.c_MOST_TICKS))) (pss_one (ps_raiseC T.x_BadNumber rfl tk rfl)) pss_nil) (pss_one (ps_for pw_own rfl (pi_range1 rfl T.b_range (pa_cons (pv 1) pa_nil)) (pg_name (i := 2) sc_Asker_tick.nd rfl (by first | exact Or.inl rfl | exact Or.inr rfl)) (pss_one (ps_expr (pe_mt0 c_Asker_step hr (by decide) tk (pv 0)))))))
abbrev s_Asker_again : Stmt := inClass (top 24) 14
theorem sc_Asker_again : FnScope nm_Asker_again ["self"] (defScope s_Asker_again) := C8.fnScope_by (by decide +kernel)
theorem ok_Asker_again {P : Program} {w : World} {mg : Str → Option Value} {base : Heap} {g : G} {f : Addr} {fd : FuncData} (F : Fun g.K "again" "Asker.again" s_Asker_again f fd) (T : Txt w mg g) (c_folded : Cal P w g.K mg base 2 "folded" (sp_folded g)) (c_Shelf_clear : Met P w g.K mg base 1 g.cH "clear" (sp_Shelf_clear g)) (c_Asker_ask_if_due : Met P w g.K mg base 3 g.cK "ask_if_due" (sp_Asker_ask_if_due g)) : FnOk P w g.K mg base (L2.CX P w) 4 f fd ["self"] (sp_Asker_again g) := by
  refine F.okX sc_Asker_again (fun vs H Q E h => lift_len h) (fun cdv A outer s H vs Q E hr h => ⟨t_Asker_again g (WF E), ?_, lift_body (by decide) (d_Asker_again (g := g) T.fl_Asker) h⟩)
  have tk : Takes (cxOf (L2.CX P w) P w g.K mg base nm_Asker_again "Asker.again" (defScope s_Asker_again) f cdv A outer s H E) (WF E) := takes_of rfl rfl rfl rfl
  skip
  exact (pss_cons (ps_if (PW.pt (pw_or (pt_cmpR (op_eqA hr.units) (pe_c c_folded hr (by decide) rfl tk (pa_cons (pe_fld (pv 0) rfl) pa_nil)) (pe_strN (by decide +kernel)) (nomark _)) (pw_or1 (pt_truth (pe_fld (pv 0) rfl) (by intro _; rfl))))) (pss_one (ps_raiseC T.x_BadAsk rfl tk rfl)) pss_nil) (pss_cons (ps_expr (pe_mt0 c_Shelf_clear hr (by decide) tk (pe_fld (pv 0) rfl))) (pss_cons (ps_fld (pv 0) pe_bl rfl) (pss_cons (ps_fld (pv 0) pe_int rfl) (pss_cons (ps_fld (pv 0) (pe_op op_sub (pe_fld (pv 0) rfl) (pe_fld (pv 0) rfl)) rfl) (pss_one (ps_expr (pe_mt0 c_Asker_ask_if_due hr (by decide) tk (pv 0)))))))))
abbrev s_Asker_view : Stmt := inClass (top 24) 15
theorem sc_Asker_view : FnScope nm_Asker_view ["self"] (defScope s_Asker_view) := C8.fnScope_by (by decide +kernel)
theorem ok_Asker_view {P : Program} {w : World} {mg : Str → Option Value} {base : Heap} {g : G} {f : Addr} {fd : FuncData} (F : Fun g.K "view" "Asker.view" s_Asker_view f fd) (T : Txt w mg g) (c_Asker_is_fresh : Met P w g.K mg base 3 g.cK "is_fresh" (sp_Asker_is_fresh g)) : FnOk P w g.K mg base (L2.CX P w) 4 f fd ["self"] (sp_Asker_view g) := by
  refine F.okX sc_Asker_view (fun vs H Q E h => lift_len h) (fun cdv A outer s H vs Q E hr h => ⟨t_Asker_view g (WF E), ?_, lift_body (by decide) (d_Asker_view (g := g) T.fl_Asker) h⟩)
  have tk : Takes (cxOf (L2.CX P w) P w g.K mg base nm_Asker_view "Asker.view" (defScope s_Asker_view) f cdv A outer s H E) (WF E) := takes_of rfl rfl rfl rfl
  skip
  exact (pss_cons (ps_if (pt_cmpR op_isNo (pe_fld (pv 0) rfl) pe_non (nomark _)) (pss_one (ps_ret (pe_tup (pa_cons (pe_strN (by decide +kernel)) (pa_cons (pe_strN (by decide +kernel)) (pa_cons (pe_lst pa_nil) pa_nil)))))) pss_nil) (pss_cons (ps_set (i := 1) sc_Asker_view.nd rfl (by first | exact Or.inl rfl | exact Or.inr rfl) (pe_ifExp (pt_val (pe_mt0 c_Asker_is_fresh hr (by decide) tk (pv 0))) (pe_strN (by decide +kernel)) (pe_strN (by decide +kernel)))) (pss_one (ps_ret (pe_tup (pa_cons (pv 1) (pa_cons (pe_ix ix_seq (pe_fld (pv 0) rfl) pe_int (fun _ _ => rfl)) (pa_cons (pe_callTy cr_listA (by rfl) T.b_list (by decide +kernel) (pa_cons (pe_ix ix_seq (pe_fld (pv 0) rfl) pe_int (fun _ _ => rfl)) pa_nil)) pa_nil))))))))
abbrev s_Asker_log : Stmt := inClass (top 24) 17
theorem sc_Asker_log : FnScope nm_Asker_log ["self"] (defScope s_Asker_log) := C8.fnScope_by (by decide +kernel)
theorem ok_Asker_log {P : Program} {w : World} {mg : Str → Option Value} {base : Heap} {g : G} {f : Addr} {fd : FuncData} (F : Fun g.K "log" "Asker.log" s_Asker_log f fd) (T : Txt w mg g)  : FnOk P w g.K mg base (L2.CX P w) 1 f fd ["self"] (sp_Asker_log g) := by
  refine F.okX sc_Asker_log (fun vs H Q E h => lift_len h) (fun cdv A outer s H vs Q E hr h => ⟨t_Asker_log g (WF E), ?_, lift_body (by decide) (d_Asker_log (g := g) T.fl_Asker) h⟩)
  have tk : Takes (cxOf (L2.CX P w) P w g.K mg base nm_Asker_log "Asker.log" (defScope s_Asker_log) f cdv A outer s H E) (WF E) := takes_of rfl rfl rfl rfl
  skip
  exact (pss_one (ps_ret (pe_callTy cr_listA (by rfl) T.b_list (by decide +kernel) (pa_cons (pe_fld (pv 0) rfl) pa_nil))))
abbrev s_Road___init__ : Stmt := inClass (top 28) 0
theorem sc_Road___init__ : FnScope nm_Road___init__ ["self", "delays"] (defScope s_Road___init__) := C8.fnScope_by (by decide +kernel)
theorem ok_Road___init__ {P : Program} {w : World} {mg : Str → Option Value} {base : Heap} {g : G} {f : Addr} {fd : FuncData} (F : Fun g.K "__init__" "Road.__init__" s_Road___init__ f fd) (T : Txt w mg g)  : FnOk P w g.K mg base (L2.CX P w) 1 f fd ["self", "delays"] (sp_Road___init__ g) := by
  refine F.okX sc_Road___init__ (fun vs H Q E h => lift_len h) (fun cdv A outer s H vs Q E hr h => ⟨t_Road___init__ g (WF E), ?_, lift_body (by decide) (d_Road___init__ (g := g) T.fl_Road) h⟩)
  have tk : Takes (cxOf (L2.CX P w) P w g.K mg base nm_Road___init__ "Road.__init__" (defScope s_Road___init__) f cdv A outer s H E) (WF E) := takes_of rfl rfl rfl rfl
  skip
  exact (pss_cons (ps_set (i := 2) sc_Road___init__.nd rfl (by first | exact Or.inl rfl | exact Or.inr rfl) (pe_chain op_le op_le pe_int (pe_callB cr_lenA (by rfl) T.b_len (by decide +kernel) (pa_cons (pv 1) pa_nil)) (pe_gi (by rfl) T.c_MOST_DELAYS))) (pss_cons (ps_if (PW.pt (pw_or (pt_not (pt_val (pv 2))) (pw_or1 (pt_not (pt_val (pe_callB (cr_all rfl) (by rfl) T.b_all (by decide +kernel) (pa_cons (pe_lc (own := [("delay", 3)]) (g := (gName 3)) (tt := tYes) (te := (tOrV (tOp (rIsNo) (tVar 3) (tC .non)) (tChain (rLeA) (rLeA) (tC (.int 1)) (tVar 3) (tC (.int 30))))) rfl sc_Road___init__.nd (pi_list (pv 1)) (blkOk_by (own := [("delay", 3)]) (N := nm_Road___init__) (sc := defScope s_Road___init__) (by decide +kernel)) (fun _ _ _ _ _ => (pg_name (i := 3) sc_Road___init__.nd rfl (by first | exact Or.inl rfl | exact Or.inr rfl))) (fun _ _ _ _ _ => pts_nil) (fun _ _ _ _ _ => (pe_or (pe_cmpR op_isNo (pv 3) pe_non (nomark _)) (pe_one (pe_chain op_le op_le pe_int (pv 3) (pe_gi (by rfl) T.c_MOST_DELAY)))))) pa_nil))))))) (pss_one (ps_raiseC T.x_BadNumber rfl tk rfl)) pss_nil) (pss_cons (ps_fld (pv 0) (pe_callTy cr_listA (by rfl) T.b_list (by decide +kernel) (pa_cons (pv 1) pa_nil)) rfl) (pss_cons (ps_fld (pv 0) pe_int rfl) (pss_one (ps_fld (pv 0) (pe_lst pa_nil) rfl))))))
abbrev s_Road_send : Stmt := inClass (top 28) 1
theorem sc_Road_send : FnScope nm_Road_send ["self", "query", "time"] (defScope s_Road_send) := C8.fnScope_by (by decide +kernel)
theorem ok_Road_send {P : Program} {w : World} {mg : Str → Option Value} {base : Heap} {g : G} {f : Addr} {fd : FuncData} (F : Fun g.K "send" "Road.send" s_Road_send f fd) (T : Txt w mg g)  : FnOk P w g.K mg base (L2.CX P w) 1 f fd ["self", "query", "time"] (sp_Road_send g) := by
  refine F.okX sc_Road_send (fun vs H Q E h => lift_len h) (fun cdv A outer s H vs Q E hr h => ⟨t_Road_send g (WF E), ?_, lift_body (by decide) (d_Road_send (g := g) T.fl_Road) h⟩)
  have tk : Takes (cxOf (L2.CX P w) P w g.K mg base nm_Road_send "Road.send" (defScope s_Road_send) f cdv A outer s H E) (WF E) := takes_of rfl rfl rfl rfl
  skip
  exact (pss_cons (ps_set (i := 3) sc_Road_send.nd rfl (by first | exact Or.inl rfl | exact Or.inr rfl) (pe_ix ix_seq (pe_fld (pv 0) rfl) (pe_op op_mod (pe_fld (pv 0) rfl) (pe_callB cr_lenA (by rfl) T.b_len (by decide +kernel) (pa_cons (pe_fld (pv 0) rfl) pa_nil))) (fun _ _ => rfl))) (pss_cons (ps_fld (pv 0) (pe_op op_addA (pe_fld (pv 0) rfl) pe_int) rfl) (pss_cons (ps_if (pt_cmpR op_notNo (pv 3) pe_non (nomark _)) (pss_one (ps_expr (pe_bm PySem.F.plainAttrs_list PySem.F.slot_list_append PySem.F.type_list_append mt_append (pe_fld (pv 0) rfl) (pa_cons (pe_tup (pa_cons (pe_op op_addA (pv 2) (pv 3)) (pa_cons (pe_fld (pv 0) rfl) (pa_cons (pv 1) pa_nil)))) pa_nil)))) pss_nil) (pss_one (ps_ret (pe_fld (pv 0) rfl))))))
abbrev s_Road_due : Stmt := inClass (top 28) 2
theorem sc_Road_due : FnScope nm_Road_due ["self", "time"] (defScope s_Road_due) := C8.fnScope_by (by decide +kernel)
theorem ok_Road_due {P : Program} {w : World} {mg : Str → Option Value} {base : Heap} {g : G} {f : Addr} {fd : FuncData} (F : Fun g.K "due" "Road.due" s_Road_due f fd) (T : Txt w mg g)  : FnOk P w g.K mg base (L2.CX P w) 1 f fd ["self", "time"] (sp_Road_due g) := by
  refine F.okX sc_Road_due (fun vs H Q E h => lift_len h) (fun cdv A outer s H vs Q E hr h => ⟨t_Road_due g (WF E), ?_, lift_body (by decide) (d_Road_due (g := g) T.fl_Road) h⟩)
  have tk : Takes (cxOf (L2.CX P w) P w g.K mg base nm_Road_due "Road.due" (defScope s_Road_due) f cdv A outer s H E) (WF E) := takes_of rfl rfl rfl rfl
  skip
  exact (pss_cons (ps_set (i := 2) sc_Road_due.nd rfl (by first | exact Or.inl rfl | exact Or.inr rfl) (pe_callB (cr_sortA hr.units) (by rfl) T.b_sorted (by decide +kernel) (pa_cons (pe_lc (own := [("one", 3)]) (g := (gName 3)) (tt := (tTest (tOp (rLeA) (tOp (rIx g.K) (tVar 3) (tC (.int 0))) (tVar 1)))) (te := (tVar 3)) rfl sc_Road_due.nd (pi_list (pe_fld (pv 0) rfl)) (blkOk_by (own := [("one", 3)]) (N := nm_Road_due) (sc := defScope s_Road_due) (by decide +kernel)) (fun _ _ _ _ _ => (pg_name (i := 3) sc_Road_due.nd rfl (by first | exact Or.inl rfl | exact Or.inr rfl))) (fun _ _ _ _ _ => (pts_one (pt_cmpR op_le (pe_ix ix_seq (pv 3) pe_int (fun _ _ => rfl)) (pv 1) (nomark _)))) (fun _ _ _ _ _ => (pv 3))) pa_nil))) (pss_cons (ps_fld (pv 0) (pe_lc (own := [("one", 3)]) (g := (gName 3)) (tt := (tTest (tOp (rGtA) (tOp (rIx g.K) (tVar 3) (tC (.int 0))) (tVar 1)))) (te := (tVar 3)) rfl sc_Road_due.nd (pi_list (pe_fld (pv 0) rfl)) (blkOk_by (own := [("one", 3)]) (N := nm_Road_due) (sc := defScope s_Road_due) (by decide +kernel)) (fun _ _ _ _ _ => (pg_name (i := 3) sc_Road_due.nd rfl (by first | exact Or.inl rfl | exact Or.inr rfl))) (fun _ _ _ _ _ => (pts_one (pt_cmpR op_gt (pe_ix ix_seq (pv 3) pe_int (fun _ _ => rfl)) (pv 1) (nomark _)))) (fun _ _ _ _ _ => (pv 3))) rfl) (pss_one (ps_ret (pe_lc (own := [("when", 4), ("number", 5), ("query", 6)]) (g := (gTup g.K 3 (gCons (gName 4) (gCons (gName 5) (gCons (gName 6) gNil))))) (tt := tYes) (te := (tTup (tCons (tVar 5) (tCons (tVar 6) tNil)))) rfl sc_Road_due.nd (pi_list (pv 2)) (blkOk_by (own := [("when", 4), ("number", 5), ("query", 6)]) (N := nm_Road_due) (sc := defScope s_Road_due) (by decide +kernel)) (fun _ _ _ _ _ => (pg_tup rfl (pgs_cons (pg_name (i := 4) sc_Road_due.nd rfl (by first | exact Or.inl rfl | exact Or.inr rfl)) (pgs_cons (pg_name (i := 5) sc_Road_due.nd rfl (by first | exact Or.inl rfl | exact Or.inr rfl)) (pgs_cons (pg_name (i := 6) sc_Road_due.nd rfl (by first | exact Or.inl rfl | exact Or.inr rfl)) pgs_nil))))) (fun _ _ _ _ _ => pts_nil) (fun _ _ _ _ _ => (pe_tup (pa_cons (pv 5) (pa_cons (pv 6) pa_nil)))))))))
abbrev s_Shelf___init__ : Stmt := inClass (top 32) 0
theorem sc_Shelf___init__ : FnScope nm_Shelf___init__ ["self", "most", "term"] (defScope s_Shelf___init__) := C8.fnScope_by (by decide +kernel)
theorem ok_Shelf___init__ {P : Program} {w : World} {mg : Str → Option Value} {base : Heap} {g : G} {f : Addr} {fd : FuncData} (F : Fun g.K "__init__" "Shelf.__init__" s_Shelf___init__ f fd) (T : Txt w mg g)  : FnOk P w g.K mg base (L2.CX P w) 1 f fd ["self", "most", "term"] (sp_Shelf___init__ g) := by
  refine F.okX sc_Shelf___init__ (fun vs H Q E h => lift_len h) (fun cdv A outer s H vs Q E hr h => ⟨t_Shelf___init__ g (WF E), ?_, lift_body (by decide) (d_Shelf___init__ (g := g) T.fl_Shelf) h⟩)
  have tk : Takes (cxOf (L2.CX P w) P w g.K mg base nm_Shelf___init__ "Shelf.__init__" (defScope s_Shelf___init__) f cdv A outer s H E) (WF E) := takes_of rfl rfl rfl rfl
  skip
  exact (pss_cons (ps_if (PW.pt (pw_or (pt_not (pt_chain op_le op_le pe_int (pv 1) (pe_gi (by rfl) T.c_MOST_KEPT))) (pw_or1 (pt_not (pt_chain op_le op_le pe_int (pv 2) (pe_gi (by rfl) T.c_MOST_TERM)))))) (pss_one (ps_raiseC T.x_BadNumber rfl tk rfl)) pss_nil) (pss_cons (ps_fld (pv 0) (pv 1) rfl) (pss_cons (ps_fld (pv 0) (pv 2) rfl) (pss_one (ps_fld (pv 0) (pe_lst pa_nil) rfl)))))
abbrev s_Shelf_put : Stmt := inClass (top 32) 1
theorem sc_Shelf_put : FnScope nm_Shelf_put ["self", "query", "rows", "is_all", "time"] (defScope s_Shelf_put) := C8.fnScope_by (by decide +kernel)
theorem ok_Shelf_put {P : Program} {w : World} {mg : Str → Option Value} {base : Heap} {g : G} {f : Addr} {fd : FuncData} (F : Fun g.K "put" "Shelf.put" s_Shelf_put f fd) (T : Txt w mg g) (c_folded : Cal P w g.K mg base 2 "folded" (sp_folded g)) : FnOk P w g.K mg base (L2.CX P w) 3 f fd ["self", "query", "rows", "is_all", "time"] (sp_Shelf_put g) := by
  refine F.okX sc_Shelf_put (fun vs H Q E h => lift_len h) (fun cdv A outer s H vs Q E hr h => ⟨t_Shelf_put g (WF E), ?_, lift_body (by decide) (d_Shelf_put (g := g) T.fl_Shelf) h⟩)
  have tk : Takes (cxOf (L2.CX P w) P w g.K mg base nm_Shelf_put "Shelf.put" (defScope s_Shelf_put) f cdv A outer s H E) (WF E) := takes_of rfl rfl rfl rfl
  skip
  exact (pss_cons (ps_set (i := 5) sc_Shelf_put.nd rfl (by first | exact Or.inl rfl | exact Or.inr rfl) (pe_c c_folded hr (by decide) rfl tk (pa_cons (pv 1) pa_nil))) (pss_cons (ps_fld (pv 0) (pe_op op_addA (pe_lc (own := [("one", 6)]) (g := (gName 6)) (tt := (tTest (tOp (rNeA g.K) (tOp (rIx g.K) (tVar 6) (tC (.int 0))) (tVar 5)))) (te := (tVar 6)) rfl sc_Shelf_put.nd (pi_list (pe_fld (pv 0) rfl)) (blkOk_by (own := [("one", 6)]) (N := nm_Shelf_put) (sc := defScope s_Shelf_put) (by decide +kernel)) (fun _ _ _ _ _ => (pg_name (i := 6) sc_Shelf_put.nd rfl (by first | exact Or.inl rfl | exact Or.inr rfl))) (fun _ _ _ _ _ => (pts_one (pt_cmpR (op_neA hr.units) (pe_ix ix_seq (pv 6) pe_int (fun _ _ => rfl)) (pv 5) (nomark _)))) (fun _ _ _ _ _ => (pv 6))) (pe_lst (pa_cons (pe_tup (pa_cons (pv 5) (pa_cons (pe_callTy cr_listA (by rfl) T.b_list (by decide +kernel) (pa_cons (pv 2) pa_nil)) (pa_cons (pv 3) (pa_cons (pv 4) pa_nil))))) pa_nil))) rfl) (pss_one (ps_fld (pv 0) (pe_slice sl_A (pe_fld (pv 0) rfl) (po_some (pe_callB (cr_max2 rfl) (by rfl) T.b_max (by decide +kernel) (pa_cons pe_int (pa_cons (pe_op op_sub (pe_callB cr_lenA (by rfl) T.b_len (by decide +kernel) (pa_cons (pe_fld (pv 0) rfl) pa_nil)) (pe_fld (pv 0) rfl)) pa_nil)))) po_none) rfl))))
abbrev s_Shelf_source : Stmt := inClass (top 32) 3
theorem sc_Shelf_source : FnScope nm_Shelf_source ["self", "query", "time"] (defScope s_Shelf_source) := C8.fnScope_by (by decide +kernel)
theorem ok_Shelf_source {P : Program} {w : World} {mg : Str → Option Value} {base : Heap} {g : G} {f : Addr} {fd : FuncData} (F : Fun g.K "source" "Shelf.source" s_Shelf_source f fd) (T : Txt w mg g) (c_folded : Cal P w g.K mg base 2 "folded" (sp_folded g)) : FnOk P w g.K mg base (L2.CX P w) 3 f fd ["self", "query", "time"] (sp_Shelf_source g) := by
  refine F.okX sc_Shelf_source (fun vs H Q E h => lift_len h) (fun cdv A outer s H vs Q E hr h => ⟨t_Shelf_source g (WF E), ?_, lift_body (by decide) (d_Shelf_source (g := g) T.fl_Shelf) h⟩)
  have tk : Takes (cxOf (L2.CX P w) P w g.K mg base nm_Shelf_source "Shelf.source" (defScope s_Shelf_source) f cdv A outer s H E) (WF E) := takes_of rfl rfl rfl rfl
  have pw_own : PassesOwn (model P w) (cxOf (L2.CX P w) P w g.K mg base nm_Shelf_source "Shelf.source" (defScope s_Shelf_source) f cdv A outer s H E).A (cxOf (L2.CX P w) P w g.K mg base nm_Shelf_source "Shelf.source" (defScope s_Shelf_source) f cdv A outer s H E).env (cxOf (L2.CX P w) P w g.K mg base nm_Shelf_source "Shelf.source" (defScope s_Shelf_source) f cdv A outer s H E).xe := passes_of rfl
  exact (pss_cons (ps_set (i := 3) sc_Shelf_source.nd rfl (by first | exact Or.inl rfl | exact Or.inr rfl) (pe_c c_folded hr (by decide) rfl tk (pa_cons (pv 1) pa_nil))) (pss_cons (ps_set (i := 4) sc_Shelf_source.nd rfl (by first | exact Or.inl rfl | exact Or.inr rfl) pe_non) (pss_cons (ps_for pw_own rfl (pi_list (pe_fld (pv 0) rfl)) (pg_name (i := 5) sc_Shelf_source.nd rfl (by first | exact Or.inl rfl | exact Or.inr rfl)) (pss_one (ps_if (PW.pt (pw_and (pt_cmpR op_lt (pe_op op_sub (pv 2) (pe_ix ix_seq (pv 5) pe_int (fun _ _ => rfl))) (pe_fld (pv 0) rfl) (nomark _)) (pw_and1 (PW.pt (pw_or (pt_cmpR (op_eqA hr.units) (pe_ix ix_seq (pv 5) pe_int (fun _ _ => rfl)) (pv 3) (nomark _)) (pw_or1 (PW.pt (pw_and (pt_val (pe_ix ix_seq (pv 5) pe_int (fun _ _ => rfl))) (pw_and1 (pt_cmpR op_inA (pe_ix ix_seq (pv 5) pe_int (fun _ _ => rfl)) (pv 3) (by rfl))))))))))) (pss_one (ps_if (PW.pt (pw_or (pt_cmpR op_isNo (pv 4) pe_non (nomark _)) (pw_or1 (pt_cmpR op_gt (pe_callB cr_lenA (by rfl) T.b_len (by decide +kernel) (pa_cons (pe_ix ix_seq (pv 5) pe_int (fun _ _ => rfl)) pa_nil)) (pe_callB cr_lenA (by rfl) T.b_len (by decide +kernel) (pa_cons (pe_ix ix_seq (pv 4) pe_int (fun _ _ => rfl)) pa_nil)) (nomark _))))) (pss_one (ps_set (i := 4) sc_Shelf_source.nd rfl (by first | exact Or.inl rfl | exact Or.inr rfl) (pv 5))) pss_nil)) pss_nil))) (pss_one (ps_ret (pv 4))))))
abbrev s_Shelf_get : Stmt := inClass (top 32) 4
theorem sc_Shelf_get : FnScope nm_Shelf_get ["self", "query", "many", "time"] (defScope s_Shelf_get) := C8.fnScope_by (by decide +kernel)
theorem ok_Shelf_get {P : Program} {w : World} {mg : Str → Option Value} {base : Heap} {g : G} {f : Addr} {fd : FuncData} (F : Fun g.K "get" "Shelf.get" s_Shelf_get f fd) (T : Txt w mg g) (c_Shelf_source : Met P w g.K mg base 3 g.cH "source" (sp_Shelf_source g)) (c_best : Cal P w g.K mg base 4 "best" (sp_best g)) : FnOk P w g.K mg base (L2.CX P w) 5 f fd ["self", "query", "many", "time"] (sp_Shelf_get g) := by
  refine F.okX sc_Shelf_get (fun vs H Q E h => lift_len h) (fun cdv A outer s H vs Q E hr h => ⟨t_Shelf_get g (WF E), ?_, lift_body (by decide) (d_Shelf_get (g := g) T.fl_Shelf) h⟩)
  have tk : Takes (cxOf (L2.CX P w) P w g.K mg base nm_Shelf_get "Shelf.get" (defScope s_Shelf_get) f cdv A outer s H E) (WF E) := takes_of rfl rfl rfl rfl
  skip
  exact (pss_cons (ps_set (i := 4) sc_Shelf_get.nd rfl (by first | exact Or.inl rfl | exact Or.inr rfl) (pe_mt c_Shelf_source hr (by decide) tk (pv 0) (pa_cons (pv 1) (pa_cons (pv 3) pa_nil)))) (pss_cons (ps_if (pt_cmpR op_isNo (pv 4) pe_non (nomark _)) (pss_one (ps_ret pe_non)) pss_nil) (pss_cons (ps_fld (pv 0) (pe_op op_addA (pe_lc (own := [("other", 5)]) (g := (gName 5)) (tt := (tTest (tOp (rNeA g.K) (tOp (rIx g.K) (tVar 5) (tC (.int 0))) (tOp (rIx g.K) (tVar 4) (tC (.int 0)))))) (te := (tVar 5)) rfl sc_Shelf_get.nd (pi_list (pe_fld (pv 0) rfl)) (blkOk_by (own := [("other", 5)]) (N := nm_Shelf_get) (sc := defScope s_Shelf_get) (by decide +kernel)) (fun _ _ _ _ _ => (pg_name (i := 5) sc_Shelf_get.nd rfl (by first | exact Or.inl rfl | exact Or.inr rfl))) (fun _ _ _ _ _ => (pts_one (pt_cmpR (op_neA hr.units) (pe_ix ix_seq (pv 5) pe_int (fun _ _ => rfl)) (pe_ix ix_seq (pv 4) pe_int (fun _ _ => rfl)) (nomark _)))) (fun _ _ _ _ _ => (pv 5))) (pe_lst (pa_cons (pv 4) pa_nil))) rfl) (pss_one (ps_ret (pe_c c_best hr (by decide) rfl tk (pa_cons (pe_ix ix_seq (pv 4) pe_int (fun _ _ => rfl)) (pa_cons (pv 1) (pa_cons (pv 2) pa_nil)))))))))
abbrev s_Shelf_clear : Stmt := inClass (top 32) 5
theorem sc_Shelf_clear : FnScope nm_Shelf_clear ["self"] (defScope s_Shelf_clear) := C8.fnScope_by (by decide +kernel)
theorem ok_Shelf_clear {P : Program} {w : World} {mg : Str → Option Value} {base : Heap} {g : G} {f : Addr} {fd : FuncData} (F : Fun g.K "clear" "Shelf.clear" s_Shelf_clear f fd) (T : Txt w mg g)  : FnOk P w g.K mg base (L2.CX P w) 1 f fd ["self"] (sp_Shelf_clear g) := by
  refine F.okX sc_Shelf_clear (fun vs H Q E h => lift_len h) (fun cdv A outer s H vs Q E hr h => ⟨t_Shelf_clear g (WF E), ?_, lift_body (by decide) (d_Shelf_clear (g := g) T.fl_Shelf) h⟩)
  have tk : Takes (cxOf (L2.CX P w) P w g.K mg base nm_Shelf_clear "Shelf.clear" (defScope s_Shelf_clear) f cdv A outer s H E) (WF E) := takes_of rfl rfl rfl rfl
  skip
  exact (pss_one (ps_fld (pv 0) (pe_lst pa_nil) rfl))
abbrev s_look_deed : Stmt := top 38
theorem sc_look_deed : FnScope nm_look_deed ["deed"] (defScope s_look_deed) := C8.fnScope_by (by decide +kernel)
theorem ok_look_deed {P : Program} {w : World} {mg : Str → Option Value} {base : Heap} {g : G} {f : Addr} {fd : FuncData} (F : Fun g.K "look_deed" "look_deed" s_look_deed f fd) (T : Txt w mg g) (c_look_text : Cal P w g.K mg base 1 "look_text" (sp_look_text g)) : FnOk P w g.K mg base (L2.CX P w) 2 f fd ["deed"] (sp_look_deed g) := by
  refine F.okX sc_look_deed (fun vs H Q E h => lift_len h) (fun cdv A outer s H vs Q E hr h => ⟨t_look_deed g (WF E), ?_, lift_body (by decide) (d_look_deed (g := g)) h⟩)
  have tk : Takes (cxOf (L2.CX P w) P w g.K mg base nm_look_deed "look_deed" (defScope s_look_deed) f cdv A outer s H E) (WF E) := takes_of rfl rfl rfl rfl
  skip
  exact (pss_cons (ps_if (PW.pt (pw_or (pt_cmpR (op_eqA hr.units) (pe_callB cr_lenA (by rfl) T.b_len (by decide +kernel) (pa_cons (pv 0) pa_nil)) pe_int (nomark _)) (pw_or (pt_cmpR (op_ninW T.w_WORDS) (pe_ix ix_seq (pv 0) pe_int (fun _ _ => rfl)) (pe_glob (by rfl) T.c_WORDS rfl) (by rfl)) (pw_or1 (pt_cmpR (op_neA hr.units) (pe_callB cr_lenA (by rfl) T.b_len (by decide +kernel) (pa_cons (pv 0) pa_nil)) (pe_ix (ix_word T.w_WORDS) (pe_glob (by rfl) T.c_WORDS rfl) (pe_ix ix_seq (pv 0) pe_int (fun _ _ => rfl)) (fun _ _ => rfl)) (nomark _)))))) (pss_one (ps_raiseC T.x_BadAsk rfl tk rfl)) pss_nil) (pss_one (ps_if (pt_cmpR (op_eqA hr.units) (pe_ix ix_seq (pv 0) pe_int (fun _ _ => rfl)) (pe_strN (by decide +kernel)) (nomark _)) (pss_one (ps_if (pt_not (pt_chain op_le op_le pe_int (pe_ix ix_seq (pv 0) pe_int (fun _ _ => rfl)) (pe_gi (by rfl) T.c_MOST_TICK))) (pss_one (ps_raiseC T.x_BadNumber rfl tk rfl)) pss_nil)) (pss_one (ps_if (pt_cmpR (op_eqA hr.units) (pe_callB cr_lenA (by rfl) T.b_len (by decide +kernel) (pa_cons (pv 0) pa_nil)) pe_int (nomark _)) (pss_one (ps_expr (pe_c c_look_text hr (by decide) rfl tk (pa_cons (pe_ix ix_seq (pv 0) pe_int (fun _ _ => rfl)) (pa_cons (pe_gi (by rfl) T.c_MOST_SIGNS) pa_nil))))) pss_nil)))))
abbrev s_look_deeds : Stmt := top 39
theorem sc_look_deeds : FnScope nm_look_deeds ["deeds"] (defScope s_look_deeds) := C8.fnScope_by (by decide +kernel)
theorem ok_look_deeds {P : Program} {w : World} {mg : Str → Option Value} {base : Heap} {g : G} {f : Addr} {fd : FuncData} (F : Fun g.K "look_deeds" "look_deeds" s_look_deeds f fd) (T : Txt w mg g) (c_look_deed : Cal P w g.K mg base 2 "look_deed" (sp_look_deed g)) : FnOk P w g.K mg base (L2.CX P w) 3 f fd ["deeds"] (sp_look_deeds g) := by
  refine F.okX sc_look_deeds (fun vs H Q E h => lift_len h) (fun cdv A outer s H vs Q E hr h => ⟨t_look_deeds g (WF E), ?_, lift_body (by decide) (d_look_deeds (g := g)) h⟩)
  have tk : Takes (cxOf (L2.CX P w) P w g.K mg base nm_look_deeds "look_deeds" (defScope s_look_deeds) f cdv A outer s H E) (WF E) := takes_of rfl rfl rfl rfl
  have pw_own : PassesOwn (model P w) (cxOf (L2.CX P w) P w g.K mg base nm_look_deeds "look_deeds" (defScope s_look_deeds) f cdv A outer s H E).A (cxOf (L2.CX P w) P w g.K mg base nm_look_deeds "look_deeds" (defScope s_look_deeds) f cdv A outer s H E).env (cxOf (L2.CX P w) P w g.K mg base nm_look_deeds "look_deeds" (defScope s_look_deeds) f cdv A outer s H E).xe := passes_of rfl
  exact (pss_one (ps_for pw_own rfl (pi_list (pv 0)) (pg_name (i := 1) sc_look_deeds.nd rfl (by first | exact Or.inl rfl | exact Or.inr rfl)) (pss_one (ps_expr (pe_c c_look_deed hr (by decide) rfl tk (pa_cons (pv 1) pa_nil))))))
abbrev s_do : Stmt := top 40
theorem sc_do : FnScope nm_do ["store", "asker", "deed"] (defScope s_do) := C8.fnScope_by (by decide +kernel)
theorem ok_do {P : Program} {w : World} {mg : Str → Option Value} {base : Heap} {g : G} {f : Addr} {fd : FuncData} (F : Fun g.K "do" "do" s_do f fd) (T : Txt w mg g) (c_Asker_put : Met P w g.K mg base 7 g.cK "put" (sp_Asker_put g)) (c_Asker_key : Met P w g.K mg base 8 g.cK "key" (sp_Asker_key g)) (c_Asker_rub : Met P w g.K mg base 8 g.cK "rub" (sp_Asker_rub g)) (c_Asker_tick : Met P w g.K mg base 8 g.cK "tick" (sp_Asker_tick g)) (c_Asker_again : Met P w g.K mg base 4 g.cK "again" (sp_Asker_again g)) (c_Store_add : Met P w g.K mg base 3 g.cS "add" (sp_Store_add g)) (c_Store_remove : Met P w g.K mg base 1 g.cS "remove" (sp_Store_remove g)) : FnOk P w g.K mg base (L2.CX P w) 9 f fd ["store", "asker", "deed"] (sp_do g) := by
  refine F.okX sc_do (fun vs H Q E h => lift_len h) (fun cdv A outer s H vs Q E hr h => ⟨t_do g (WF E), ?_, lift_body (by decide) (d_do (g := g)) h⟩)
  have tk : Takes (cxOf (L2.CX P w) P w g.K mg base nm_do "do" (defScope s_do) f cdv A outer s H E) (WF E) := takes_of rfl rfl rfl rfl
  skip
  exact (pss_cons (ps_set (i := 3) sc_do.nd rfl (by first | exact Or.inl rfl | exact Or.inr rfl) (pe_ix ix_seq (pv 2) pe_int (fun _ _ => rfl))) (pss_one (ps_if (pt_cmpR (op_eqA hr.units) (pv 3) (pe_strN (by decide +kernel)) (nomark _)) (pss_one (ps_expr (pe_mt c_Asker_put hr (by decide) tk (pv 1) (pa_cons (pe_ix ix_seq (pv 2) pe_int (fun _ _ => rfl)) pa_nil)))) (pss_one (ps_if (pt_cmpR (op_eqA hr.units) (pv 3) (pe_strN (by decide +kernel)) (nomark _)) (pss_one (ps_expr (pe_mt c_Asker_key hr (by decide) tk (pv 1) (pa_cons (pe_ix ix_seq (pv 2) pe_int (fun _ _ => rfl)) pa_nil)))) (pss_one (ps_if (pt_cmpR (op_eqA hr.units) (pv 3) (pe_strN (by decide +kernel)) (nomark _)) (pss_one (ps_expr (pe_mt0 c_Asker_rub hr (by decide) tk (pv 1)))) (pss_one (ps_if (pt_cmpR (op_eqA hr.units) (pv 3) (pe_strN (by decide +kernel)) (nomark _)) (pss_one (ps_expr (pe_mt c_Asker_tick hr (by decide) tk (pv 1) (pa_cons (pe_ix ix_seq (pv 2) pe_int (fun _ _ => rfl)) pa_nil)))) (pss_one (ps_if (pt_cmpR (op_eqA hr.units) (pv 3) (pe_strN (by decide +kernel)) (nomark _)) (pss_one (ps_expr (pe_mt0 c_Asker_again hr (by decide) tk (pv 1)))) (pss_one (ps_if (pt_cmpR (op_eqA hr.units) (pv 3) (pe_strN (by decide +kernel)) (nomark _)) (pss_one (ps_expr (pe_mt c_Store_add hr (by decide) tk (pv 0) (pa_cons (pe_ix ix_seq (pv 2) pe_int (fun _ _ => rfl)) pa_nil)))) (pss_one (ps_expr (pe_mt c_Store_remove hr (by decide) tk (pv 0) (pa_cons (pe_ix ix_seq (pv 2) pe_int (fun _ _ => rfl)) pa_nil)))))))))))))))))
abbrev s_word_of : Stmt := top 41
theorem sc_word_of : FnScope nm_word_of ["store", "asker", "deed"] (defScope s_word_of) := C8.fnScope_by (by decide +kernel)
theorem ok_word_of {P : Program} {w : World} {mg : Str → Option Value} {base : Heap} {g : G} {f : Addr} {fd : FuncData} (F : Fun g.K "word_of" "word_of" s_word_of f fd) (T : Txt w mg g) (c_do : Cal P w g.K mg base 9 "do" (sp_do g)) : FnOk P w g.K mg base (L2.CX P w) 10 f fd ["store", "asker", "deed"] (sp_word_of g) := by
  refine F.okX sc_word_of (fun vs H Q E h => lift_len h) (fun cdv A outer s H vs Q E hr h => ⟨t_word_of g (WF E), ?_, lift_body (by decide) (d_word_of (g := g) T.x T.xm) h⟩)
  have tk : Takes (cxOf (L2.CX P w) P w g.K mg base nm_word_of "word_of" (defScope s_word_of) f cdv A outer s H E) (WF E) := takes_of rfl rfl rfl rfl
  have pw_own : PassesOwn (model P w) (cxOf (L2.CX P w) P w g.K mg base nm_word_of "word_of" (defScope s_word_of) f cdv A outer s H E).A (cxOf (L2.CX P w) P w g.K mg base nm_word_of "word_of" (defScope s_word_of) f cdv A outer s H E).env (cxOf (L2.CX P w) P w g.K mg base nm_word_of "word_of" (defScope s_word_of) f cdv A outer s H E).xe := passes_of rfl
  exact (pss_cons (ps_set (i := 3) sc_word_of.nd rfl (by first | exact Or.inl rfl | exact Or.inr rfl) (pe_strN (by decide +kernel))) (pss_cons (ps_tryM rfl rfl tk (fun W' pn xe tk' pw_own' => (pss_one (ps_expr (pe_c c_do hr (by decide) rfl tk' (pa_cons (pv 0) (pa_cons (pv 1) (pa_cons (pv 2) pa_nil))))))) (HdsOk.cons ⟨rfl, by decide, Or.inl T.x_BadText.gC⟩ (fun _ _ _ _ _ _ _ => (pss_one (ps_set (i := 3) sc_word_of.nd rfl (by first | exact Or.inl rfl | exact Or.inr rfl) (pe_strN (by decide +kernel))))) (HdsOk.cons ⟨rfl, by decide, Or.inl T.x_BadNumber.gC⟩ (fun _ _ _ _ _ _ _ => (pss_one (ps_set (i := 3) sc_word_of.nd rfl (by first | exact Or.inl rfl | exact Or.inr rfl) (pe_strN (by decide +kernel))))) (HdsOk.cons ⟨rfl, by decide, Or.inl T.x_BadAsk.gC⟩ (fun _ _ _ _ _ _ _ => (pss_one (ps_set (i := 3) sc_word_of.nd rfl (by first | exact Or.inl rfl | exact Or.inr rfl) (pe_strN (by decide +kernel))))) HdsOk.nil)))) (pss_one (ps_ret (pv 3)))))
abbrev s_played : Stmt := top 42
theorem sc_played : FnScope nm_played ["delays", "shelf", "rules", "deeds"] (defScope s_played) := C8.fnScope_by (by decide +kernel)
theorem ok_played {P : Program} {w : World} {mg : Str → Option Value} {base : Heap} {g : G} {f : Addr} {fd : FuncData} (F : Fun g.K "played" "played" s_played f fd) (T : Txt w mg g) (c_look_deeds : Cal P w g.K mg base 3 "look_deeds" (sp_look_deeds g)) (c_Store : Mak P w g.K mg base 1 "Store" g.cS (sp_Store___init__ g)) (c_Shelf : Mak P w g.K mg base 1 "Shelf" g.cH (sp_Shelf___init__ g)) (c_Road : Mak P w g.K mg base 1 "Road" g.cR (sp_Road___init__ g)) (c_Asker : Mak P w g.K mg base 2 "Asker" g.cK (sp_Asker___init__ g)) (c_Asker_view : Met P w g.K mg base 4 g.cK "view" (sp_Asker_view g)) (c_word_of : Cal P w g.K mg base 10 "word_of" (sp_word_of g)) (c_Asker_log : Met P w g.K mg base 1 g.cK "log" (sp_Asker_log g)) : FnOk P w g.K mg base (L2.CX P w) 11 f fd ["delays", "shelf", "rules", "deeds"] (sp_played g) := by
  refine F.okX sc_played (fun vs H Q E h => lift_len h) (fun cdv A outer s H vs Q E hr h => ⟨t_played g (WF E), ?_, lift_body (by decide) (d_played (g := g)) h⟩)
  have tk : Takes (cxOf (L2.CX P w) P w g.K mg base nm_played "played" (defScope s_played) f cdv A outer s H E) (WF E) := takes_of rfl rfl rfl rfl
  skip
  exact (pss_cons (ps_expr (pe_c c_look_deeds hr (by decide) rfl tk (pa_cons (pv 3) pa_nil))) (pss_cons (ps_set (i := 4) sc_played.nd rfl (by first | exact Or.inl rfl | exact Or.inr rfl) (pe_mk0 c_Store hr (by decide) rfl tk)) (pss_cons (ps_set (i := 5) sc_played.nd rfl (by first | exact Or.inl rfl | exact Or.inr rfl) (pe_mk c_Asker hr (by decide) rfl tk (pa_cons (pv 4) (pa_cons (pe_mk c_Road hr (by decide) rfl tk (pa_cons (pv 0) pa_nil)) (pa_cons (pe_mk c_Shelf hr (by decide) rfl tk (pa_cons (pe_ix ix_seq (pv 1) pe_int (fun _ _ => rfl)) (pa_cons (pe_ix ix_seq (pv 1) pe_int (fun _ _ => rfl)) pa_nil))) (pa_cons (pe_ix ix_seq (pv 2) pe_int (fun _ _ => rfl)) (pa_cons (pe_ix ix_seq (pv 2) pe_int (fun _ _ => rfl)) (pa_cons (pe_ix ix_seq (pv 2) pe_int (fun _ _ => rfl)) (pa_cons (pe_ix ix_seq (pv 2) pe_int (fun _ _ => rfl)) pa_nil))))))))) (pss_cons (by first | exact (ps_setLc (i := 6) (own := [("deed", 7)]) (g := (gName 7)) (tt := tYes) (te := (tTup (tCons (tCallS (sp_word_of g) (WE W0) (tCons (tVar 4) (tCons (tVar 5) (tCons (tVar 7) tNil)))) (tCons (tMethS g.cK "view" (sp_Asker_view g) (WE W0) (tVar 5) tNil) tNil)))) rfl sc_played.nd rfl rfl (sw_true rfl rfl rfl (by decide +kernel)) (pi_list (pv 3)) (blkOk_by (own := [("deed", 7)]) (N := nm_played) (sc := defScope s_played) (by decide +kernel)) (fun _ _ _ _ _ => (pg_name (i := 7) sc_played.nd rfl (by first | exact Or.inl rfl | exact Or.inr rfl))) (fun _ _ _ _ _ => pts_nil) (fun _ _ _ _ _ => (pe_tup (pa_cons (pe_c c_word_of hr (by decide) rfl takes0 (pa_cons (pv 4) (pa_cons (pv 5) (pa_cons (pv 7) pa_nil)))) (pa_cons (pe_mt0 c_Asker_view hr (by decide) takes0 (pv 5)) pa_nil))))) | exact (ps_set (i := 6) sc_played.nd rfl (by first | exact Or.inl rfl | exact Or.inr rfl) (pe_lc (own := [("deed", 7)]) (g := (gName 7)) (tt := tYes) (te := (tTup (tCons (tCallS (sp_word_of g) (WE W0) (tCons (tVar 4) (tCons (tVar 5) (tCons (tVar 7) tNil)))) (tCons (tMethS g.cK "view" (sp_Asker_view g) (WE W0) (tVar 5) tNil) tNil)))) rfl sc_played.nd (pi_list (pv 3)) (blkOk_by (own := [("deed", 7)]) (N := nm_played) (sc := defScope s_played) (by decide +kernel)) (fun _ _ _ _ _ => (pg_name (i := 7) sc_played.nd rfl (by first | exact Or.inl rfl | exact Or.inr rfl))) (fun _ _ _ _ _ => pts_nil) (fun _ _ _ _ _ => (pe_tup (pa_cons (pe_c c_word_of hr (by decide) rfl takes0 (pa_cons (pv 4) (pa_cons (pv 5) (pa_cons (pv 7) pa_nil)))) (pa_cons (pe_mt0 c_Asker_view hr (by decide) takes0 (pv 5)) pa_nil))))))) (pss_one (ps_ret (pe_tup (pa_cons (pv 6) (pa_cons (pe_mt0 c_Asker_log hr (by decide) tk (pv 5)) pa_nil)))))))))
abbrev s_row_of : Stmt := top 43
theorem sc_row_of : FnScope nm_row_of ["deed"] (defScope s_row_of) := C8.fnScope_by (by decide +kernel)
theorem ok_row_of {P : Program} {w : World} {mg : Str → Option Value} {base : Heap} {g : G} {f : Addr} {fd : FuncData} (F : Fun g.K "row_of" "row_of" s_row_of f fd) (T : Txt w mg g)  : FnOk P w g.K mg base (L2.CX P w) 1 f fd ["deed"] (sp_row_of g) := by
  refine F.okX sc_row_of (fun vs H Q E h => lift_len h) (fun cdv A outer s H vs Q E hr h => ⟨t_row_of g (WF E), ?_, lift_body (by decide) (d_row_of (g := g)) h⟩)
  have tk : Takes (cxOf (L2.CX P w) P w g.K mg base nm_row_of "row_of" (defScope s_row_of) f cdv A outer s H E) (WF E) := takes_of rfl rfl rfl rfl
  skip
  exact (pss_one (ps_ret (pe_bm PySem.F.plainAttrs_str PySem.F.slot_str_join PySem.F.type_str_join mt_joinD (pe_strN (by decide +kernel)) (pa_cons (pe_lc (own := [("one", 1)]) (g := (gName 1)) (tt := tYes) (te := (tCB (rStrA) (tCons (tVar 1) tNil))) rfl sc_row_of.nd (pi_tup (pv 0)) (blkOk_by (own := [("one", 1)]) (N := nm_row_of) (sc := defScope s_row_of) (by decide +kernel)) (fun _ _ _ _ _ => (pg_name (i := 1) sc_row_of.nd rfl (by first | exact Or.inl rfl | exact Or.inr rfl))) (fun _ _ _ _ _ => pts_nil) (fun _ _ _ _ _ => (pe_callTy cr_strA (by rfl) T.b_str (by decide +kernel) (pa_cons (pv 1) pa_nil)))) pa_nil))))
abbrev s_diary_text : Stmt := top 44
theorem sc_diary_text : FnScope nm_diary_text ["deeds"] (defScope s_diary_text) := C8.fnScope_by (by decide +kernel)
theorem ok_diary_text {P : Program} {w : World} {mg : Str → Option Value} {base : Heap} {g : G} {f : Addr} {fd : FuncData} (F : Fun g.K "diary_text" "diary_text" s_diary_text f fd) (T : Txt w mg g) (c_look_deeds : Cal P w g.K mg base 3 "look_deeds" (sp_look_deeds g)) (c_row_of : Cal P w g.K mg base 1 "row_of" (sp_row_of g)) : FnOk P w g.K mg base (L2.CX P w) 4 f fd ["deeds"] (sp_diary_text g) := by
  refine F.okX sc_diary_text (fun vs H Q E h => lift_len h) (fun cdv A outer s H vs Q E hr h => ⟨t_diary_text g (WF E), ?_, lift_body (by decide) (d_diary_text (g := g)) h⟩)
  have tk : Takes (cxOf (L2.CX P w) P w g.K mg base nm_diary_text "diary_text" (defScope s_diary_text) f cdv A outer s H E) (WF E) := takes_of rfl rfl rfl rfl
  skip
  exact (pss_cons (ps_expr (pe_c c_look_deeds hr (by decide) rfl tk (pa_cons (pv 0) pa_nil))) (pss_one (ps_ret (pe_bm PySem.F.plainAttrs_str PySem.F.slot_str_join PySem.F.type_str_join mt_joinD (pe_strN (by decide +kernel)) (pa_cons (pe_lc (own := [("deed", 1)]) (g := (gName 1)) (tt := tYes) (te := (tCallS (sp_row_of g) (WE W0) (tCons (tVar 1) tNil))) rfl sc_diary_text.nd (pi_list (pv 0)) (blkOk_by (own := [("deed", 1)]) (N := nm_diary_text) (sc := defScope s_diary_text) (by decide +kernel)) (fun _ _ _ _ _ => (pg_name (i := 1) sc_diary_text.nd rfl (by first | exact Or.inl rfl | exact Or.inr rfl))) (fun _ _ _ _ _ => pts_nil) (fun _ _ _ _ _ => (pe_c c_row_of hr (by decide) rfl takes0 (pa_cons (pv 1) pa_nil)))) pa_nil)))))
abbrev s_deed_in : Stmt := top 45
theorem sc_deed_in : FnScope nm_deed_in ["row"] (defScope s_deed_in) := C8.fnScope_by (by decide +kernel)
theorem ok_deed_in {P : Program} {w : World} {mg : Str → Option Value} {base : Heap} {g : G} {f : Addr} {fd : FuncData} (F : Fun g.K "deed_in" "deed_in" s_deed_in f fd) (T : Txt w mg g) (c_look_text : Cal P w g.K mg base 1 "look_text" (sp_look_text g)) : FnOk P w g.K mg base (L2.CX P w) 2 f fd ["row"] (sp_deed_in g) := by
  refine F.okX sc_deed_in (fun vs H Q E h => lift_len h) (fun cdv A outer s H vs Q E hr h => ⟨t_deed_in g (WF E), ?_, lift_body (by decide) (d_deed_in (g := g)) h⟩)
  have tk : Takes (cxOf (L2.CX P w) P w g.K mg base nm_deed_in "deed_in" (defScope s_deed_in) f cdv A outer s H E) (WF E) := takes_of rfl rfl rfl rfl
  skip
  exact (pss_cons (ps_set (i := 1) sc_deed_in.nd rfl (by first | exact Or.inl rfl | exact Or.inr rfl) (pe_bm PySem.F.plainAttrs_str PySem.F.slot_str_find PySem.F.type_str_find mt_findD (pv 0) (pa_cons (pe_strN (by decide +kernel)) pa_nil))) (pss_cons (ps_set (i := 2) sc_deed_in.nd rfl (by first | exact Or.inl rfl | exact Or.inr rfl) (pe_ifExp (pt_cmpR op_lt (pv 1) pe_int (nomark _)) (pv 0) (pe_slice sl_A (pv 0) po_none (po_some (pv 1))))) (pss_cons (ps_if (PW.pt (pw_or (pt_cmpR (op_ninW T.w_WORDS) (pv 2) (pe_glob (by rfl) T.c_WORDS rfl) (by rfl)) (pw_or1 (pt_cmpR (op_neA hr.units) (pe_cmpR (op_eqA hr.units) (pe_ix (ix_word T.w_WORDS) (pe_glob (by rfl) T.c_WORDS rfl) (pv 2) (fun _ _ => rfl)) pe_int (nomark _)) (pe_cmpR op_lt (pv 1) pe_int (nomark _)) (nomark _))))) (pss_one (ps_raiseC T.x_BadText rfl tk rfl)) pss_nil) (pss_cons (ps_if (pt_cmpR op_lt (pv 1) pe_int (nomark _)) (pss_one (ps_ret (pe_tup (pa_cons (pv 2) pa_nil)))) pss_nil) (pss_cons (ps_set (i := 3) sc_deed_in.nd rfl (by first | exact Or.inl rfl | exact Or.inr rfl) (pe_slice sl_A (pv 0) (po_some (pe_op op_addA (pv 1) pe_int)) po_none)) (pss_cons (ps_if (pt_cmpR (op_eqA hr.units) (pv 2) (pe_strN (by decide +kernel)) (nomark _)) (pss_cons (ps_if (PW.pt (pw_or (pt_not (pt_chain op_le op_le pe_int (pe_callB cr_lenA (by rfl) T.b_len (by decide +kernel) (pa_cons (pv 3) pa_nil)) pe_int)) (pw_or1 (pt_not (pt_val (pe_callB (cr_all rfl) (by rfl) T.b_all (by decide +kernel) (pa_cons (pe_lc (own := [("sign", 4)]) (g := (gName 4)) (tt := tYes) (te := (tOp (rInA g.K) (tVar 4) (tC (.str (S [48, 49, 50, 51, 52, 53, 54, 55, 56, 57]))))) rfl sc_deed_in.nd (pi_str (pv 3)) (blkOk_by (own := [("sign", 4)]) (N := nm_deed_in) (sc := defScope s_deed_in) (by decide +kernel)) (fun _ _ _ _ _ => (pg_name (i := 4) sc_deed_in.nd rfl (by first | exact Or.inl rfl | exact Or.inr rfl))) (fun _ _ _ _ _ => pts_nil) (fun _ _ _ _ _ => (pe_cmpR op_inA (pv 4) (pe_gsN (by rfl) T.c_FIGURES (by decide +kernel)) (by rfl)))) pa_nil))))))) (pss_one (ps_raiseC T.x_BadText rfl tk rfl)) pss_nil) (pss_one (ps_ret (pe_tup (pa_cons (pv 2) (pa_cons (pe_callTy cr_intA (by rfl) T.b_int (by decide +kernel) (pa_cons (pv 3) pa_nil)) pa_nil)))))) pss_nil) (pss_cons (ps_expr (pe_c c_look_text hr (by decide) rfl tk (pa_cons (pv 3) (pa_cons (pe_gi (by rfl) T.c_MOST_SIGNS) pa_nil)))) (pss_one (ps_ret (pe_tup (pa_cons (pv 2) (pa_cons (pv 3) pa_nil))))))))))))
abbrev s_read_diary : Stmt := top 46
theorem sc_read_diary : FnScope nm_read_diary ["text"] (defScope s_read_diary) := C8.fnScope_by (by decide +kernel)
theorem ok_read_diary {P : Program} {w : World} {mg : Str → Option Value} {base : Heap} {g : G} {f : Addr} {fd : FuncData} (F : Fun g.K "read_diary" "read_diary" s_read_diary f fd) (T : Txt w mg g) (c_deed_in : Cal P w g.K mg base 2 "deed_in" (sp_deed_in g)) (c_row_of : Cal P w g.K mg base 1 "row_of" (sp_row_of g)) : FnOk P w g.K mg base (L2.CX P w) 3 f fd ["text"] (sp_read_diary g) := by
  refine F.okX sc_read_diary (fun vs H Q E h => lift_len h) (fun cdv A outer s H vs Q E hr h => ⟨t_read_diary g (WF E), ?_, lift_body (by decide) (d_read_diary (g := g)) h⟩)
  have tk : Takes (cxOf (L2.CX P w) P w g.K mg base nm_read_diary "read_diary" (defScope s_read_diary) f cdv A outer s H E) (WF E) := takes_of rfl rfl rfl rfl
  skip
  exact (pss_cons (ps_set (i := 1) sc_read_diary.nd rfl (by first | exact Or.inl rfl | exact Or.inr rfl) (pe_ifExp (pt_cmpR (op_neA hr.units) (pv 0) (pe_strN (by decide +kernel)) (nomark _)) (pe_lcx (own := [("row", 2)]) (g := (gName 2)) (tt := tYes) (te := fun W' => (tCallS (sp_deed_in g) (WE W') (tCons (tVar 2) tNil))) rfl sc_read_diary.nd rfl rfl tk (pi_list (pe_bm PySem.F.plainAttrs_str PySem.F.slot_str_split PySem.F.type_str_split mt_splitD (pv 0) (pa_cons (pe_strN (by decide +kernel)) pa_nil))) (blkOk_by (own := [("row", 2)]) (N := nm_read_diary) (sc := defScope s_read_diary) (by decide +kernel)) (fun _ _ _ _ _ => (pg_name (i := 2) sc_read_diary.nd rfl (by first | exact Or.inl rfl | exact Or.inr rfl))) (fun _ _ _ _ _ => pts_nil) (fun _ _ _ _ _ _ _ hp => pe_cE c_deed_in hr (by decide) rfl hp (pa_cons (pv 2) pa_nil))) (pe_lst pa_nil))) (pss_cons (ps_if (pt_cmpR (op_neA hr.units) (pe_bm PySem.F.plainAttrs_str PySem.F.slot_str_join PySem.F.type_str_join mt_joinD (pe_strN (by decide +kernel)) (pa_cons (pe_lc (own := [("deed", 3)]) (g := (gName 3)) (tt := tYes) (te := (tCallS (sp_row_of g) (WE W0) (tCons (tVar 3) tNil))) rfl sc_read_diary.nd (pi_list (pv 1)) (blkOk_by (own := [("deed", 3)]) (N := nm_read_diary) (sc := defScope s_read_diary) (by decide +kernel)) (fun _ _ _ _ _ => (pg_name (i := 3) sc_read_diary.nd rfl (by first | exact Or.inl rfl | exact Or.inr rfl))) (fun _ _ _ _ _ => pts_nil) (fun _ _ _ _ _ => (pe_c c_row_of hr (by decide) rfl takes0 (pa_cons (pv 3) pa_nil)))) pa_nil)) (pv 0) (nomark _)) (pss_one (ps_raiseC T.x_BadText rfl tk rfl)) pss_nil) (pss_one (ps_ret (pv 1)))))
abbrev s__law_cell : Stmt := top 48
theorem sc__law_cell : FnScope nm__law_cell ["_law_script", "_law_k"] (defScope s__law_cell) := C8.fnScope_by (by decide +kernel)
theorem ok__law_cell {P : Program} {w : World} {mg : Str → Option Value} {base : Heap} {g : G} {f : Addr} {fd : FuncData} (F : Fun g.K "_law_cell" "_law_cell" s__law_cell f fd) (T : Txt w mg g)  : FnOk P w g.K mg base (L2.CX P w) 1 f fd ["_law_script", "_law_k"] (sp__law_cell g) := by
  refine F.okX sc__law_cell (fun vs H Q E h => lift_len h) (fun cdv A outer s H vs Q E hr h => ⟨t__law_cell g (WF E), ?_, lift_body (by decide) (d__law_cell (g := g)) h⟩)
  have tk : Takes (cxOf (L2.CX P w) P w g.K mg base nm__law_cell "_law_cell" (defScope s__law_cell) f cdv A outer s H E) (WF E) := takes_of rfl rfl rfl rfl
  skip
  exact (pss_cons (ps_if (pt_truth (pv 0) (by intro _; rfl)) (pss_one (ps_ret (pe_ix ix_seq (pv 0) (pe_op op_mod (pv 1) (pe_callB cr_lenA (by rfl) T.b_len (by decide +kernel) (pa_cons (pv 0) pa_nil))) (fun _ _ => rfl)))) pss_nil) (pss_one (ps_ret pe_int)))
abbrev s__law_mix : Stmt := top 49
theorem sc__law_mix : FnScope nm__law_mix ["_law_script", "_law_k"] (defScope s__law_mix) := C8.fnScope_by (by decide +kernel)
theorem ok__law_mix {P : Program} {w : World} {mg : Str → Option Value} {base : Heap} {g : G} {f : Addr} {fd : FuncData} (F : Fun g.K "_law_mix" "_law_mix" s__law_mix f fd) (T : Txt w mg g) (c__law_cell : Cal P w g.K mg base 1 "_law_cell" (sp__law_cell g)) : FnOk P w g.K mg base (L2.CX P w) 2 f fd ["_law_script", "_law_k"] (sp__law_mix g) := by
  refine F.okX sc__law_mix (fun vs H Q E h => lift_len h) (fun cdv A outer s H vs Q E hr h => ⟨t__law_mix g (WF E), ?_, lift_body (by decide) (d__law_mix (g := g)) h⟩)
  have tk : Takes (cxOf (L2.CX P w) P w g.K mg base nm__law_mix "_law_mix" (defScope s__law_mix) f cdv A outer s H E) (WF E) := takes_of rfl rfl rfl rfl
  skip
  exact (pss_cons (ps_set (i := 2) sc__law_mix.nd rfl (by first | exact Or.inl rfl | exact Or.inr rfl) (pe_op op_mod (pe_op op_addA (pe_c c__law_cell hr (by decide) rfl tk (pa_cons (pv 0) (pa_cons (pv 1) pa_nil))) (pe_op op_mulA pe_int (pe_op op_addA (pv 1) pe_int))) pe_int)) (pss_cons (ps_set (i := 2) sc__law_mix.nd rfl (by first | exact Or.inl rfl | exact Or.inr rfl) (pe_op op_mod (pe_op op_pow (pv 2) pe_int) pe_int)) (pss_one (ps_ret (pe_op op_mod (pe_op op_addA (pe_op op_mulA (pe_op op_fdiv (pv 2) pe_int) pe_int) (pv 2)) pe_int)))))
abbrev s__law_draw : Stmt := top 50
theorem sc__law_draw : FnScope nm__law_draw ["_law_script", "_law_town", "_law_many"] (defScope s__law_draw) := C8.fnScope_by (by decide +kernel)
theorem ok__law_draw {P : Program} {w : World} {mg : Str → Option Value} {base : Heap} {g : G} {f : Addr} {fd : FuncData} (F : Fun g.K "_law_draw" "_law_draw" s__law_draw f fd) (T : Txt w mg g) (c__law_mix : Cal P w g.K mg base 2 "_law_mix" (sp__law_mix g)) : FnOk P w g.K mg base (L2.CX P w) 3 f fd ["_law_script", "_law_town", "_law_many"] (sp__law_draw g) := by
  refine F.okX sc__law_draw (fun vs H Q E h => lift_len h) (fun cdv A outer s H vs Q E hr h => ⟨t__law_draw g (WF E), ?_, lift_body (by decide) (d__law_draw (g := g)) h⟩)
  have tk : Takes (cxOf (L2.CX P w) P w g.K mg base nm__law_draw "_law_draw" (defScope s__law_draw) f cdv A outer s H E) (WF E) := takes_of rfl rfl rfl rfl
  skip
  exact (pss_cons (ps_expr (pe_bm PySem.F.plainAttrs_list PySem.F.slot_list_append PySem.F.type_list_append mt_append (pv 1) (pa_cons pe_int pa_nil))) (pss_one (ps_ret (pe_op op_mod (pe_op op_fdiv (pe_c c__law_mix hr (by decide) rfl tk (pa_cons (pv 0) (pa_cons (pe_callB cr_lenA (by rfl) T.b_len (by decide +kernel) (pa_cons (pv 1) pa_nil)) pa_nil))) pe_int) (pv 2)))))
abbrev s__law_pick : Stmt := top 51
theorem sc__law_pick : FnScope nm__law_pick ["_law_script", "_law_town", "_law_some"] (defScope s__law_pick) := C8.fnScope_by (by decide +kernel)
theorem ok__law_pick {P : Program} {w : World} {mg : Str → Option Value} {base : Heap} {g : G} {f : Addr} {fd : FuncData} (F : Fun g.K "_law_pick" "_law_pick" s__law_pick f fd) (T : Txt w mg g) (c__law_draw : Cal P w g.K mg base 3 "_law_draw" (sp__law_draw g)) : FnOk P w g.K mg base (L2.CX P w) 4 f fd ["_law_script", "_law_town", "_law_some"] (sp__law_pick g) := by
  refine F.okX sc__law_pick (fun vs H Q E h => lift_len h) (fun cdv A outer s H vs Q E hr h => ⟨t__law_pick g (WF E), ?_, lift_body (by decide) (d__law_pick (g := g)) h⟩)
  have tk : Takes (cxOf (L2.CX P w) P w g.K mg base nm__law_pick "_law_pick" (defScope s__law_pick) f cdv A outer s H E) (WF E) := takes_of rfl rfl rfl rfl
  skip
  exact (pss_one (ps_ret (pe_ix ix_seq (pv 2) (pe_c c__law_draw hr (by decide) rfl tk (pa_cons (pv 0) (pa_cons (pv 1) (pa_cons (pe_callB cr_lenA (by rfl) T.b_len (by decide +kernel) (pa_cons (pv 2) pa_nil)) pa_nil)))) (fun _ _ => rfl))))
abbrev s__law_refusal : Stmt := top 52
theorem sc__law_refusal : FnScope nm__law_refusal ["_law_caught"] (defScope s__law_refusal) := C8.fnScope_by (by decide +kernel)
theorem ok__law_refusal {P : Program} {w : World} {mg : Str → Option Value} {base : Heap} {g : G} {f : Addr} {fd : FuncData} (F : Fun g.K "_law_refusal" "_law_refusal" s__law_refusal f fd) (T : Txt w mg g)  : FnOk P w g.K mg base (L2.CX P w) 1 f fd ["_law_caught"] (sp__law_refusal g) := by
  refine F.okX sc__law_refusal (fun vs H Q E h => lift_len h) (fun cdv A outer s H vs Q E hr h => ⟨t__law_refusal g (WF E), ?_, lift_body (by decide) (d__law_refusal (g := g) T.x) h⟩)
  have tk : Takes (cxOf (L2.CX P w) P w g.K mg base nm__law_refusal "_law_refusal" (defScope s__law_refusal) f cdv A outer s H E) (WF E) := takes_of rfl rfl rfl rfl
  skip
  exact (pss_cons (ps_if (pt_cmpR op_isNo (pv 0) pe_non (nomark _)) (pss_one (ps_ret (pe_tup (pa_cons (pe_strN (by decide +kernel)) pa_nil)))) pss_nil) (pss_cons (ps_set (i := 1) sc__law_refusal.nd rfl (by first | exact Or.inl rfl | exact Or.inr rfl) (pe_lst (pa_cons (pe_callB call_isX (by rfl) T.b_isinstance (by decide +kernel) (pa_cons (pv 0) (pa_cons (pe_glob (by rfl) T.x_BadText.gC rfl) pa_nil))) (pa_cons (pe_callB call_isX (by rfl) T.b_isinstance (by decide +kernel) (pa_cons (pv 0) (pa_cons (pe_glob (by rfl) T.x_BadNumber.gC rfl) pa_nil))) (pa_cons (pe_callB call_isX (by rfl) T.b_isinstance (by decide +kernel) (pa_cons (pv 0) (pa_cons (pe_glob (by rfl) T.x_BadAsk.gC rfl) pa_nil))) pa_nil))))) (pss_cons (ps_if (PW.pt (pw_or (pt_cmpR (op_neA hr.units) (pe_bm PySem.F.plainAttrs_list PySem.F.slot_list_count PySem.F.type_list_count mt_cntF (pv 1) (pa_cons pe_bl pa_nil)) pe_int (nomark _)) (pw_or1 (pt_not (pt_val (pe_callB call_isX (by rfl) T.b_isinstance (by decide +kernel) (pa_cons (pv 0) (pa_cons (pe_bltn (by rfl) T.b_ValueError (by decide +kernel) rfl) pa_nil)))))))) (pss_one (ps_ret (pe_tup (pa_cons (pe_strN (by decide +kernel)) pa_nil)))) pss_nil) (pss_one (ps_ret (pe_tup (pa_cons (pe_strN (by decide +kernel)) (pa_cons (pe_ix ix_seq (pe_lst (pa_cons (pe_strN (by decide +kernel)) (pa_cons (pe_strN (by decide +kernel)) (pa_cons (pe_strN (by decide +kernel)) pa_nil)))) (pe_bm PySem.F.plainAttrs_list PySem.F.slot_list_index PySem.F.type_list_index mt_index (pv 1) (pa_cons pe_bl pa_nil)) (fun _ _ => rfl)) pa_nil))))))))
abbrev s__law_row : Stmt := top 53
theorem sc__law_row : FnScope nm__law_row ["_law_script", "_law_town"] (defScope s__law_row) := C8.fnScope_by (by decide +kernel)
theorem ok__law_row {P : Program} {w : World} {mg : Str → Option Value} {base : Heap} {g : G} {f : Addr} {fd : FuncData} (F : Fun g.K "_law_row" "_law_row" s__law_row f fd) (T : Txt w mg g) (c__law_draw : Cal P w g.K mg base 3 "_law_draw" (sp__law_draw g)) (c__law_pick : Cal P w g.K mg base 4 "_law_pick" (sp__law_pick g)) : FnOk P w g.K mg base (L2.CX P w) 5 f fd ["_law_script", "_law_town"] (sp__law_row g) := by
  refine F.okX sc__law_row (fun vs H Q E h => lift_len h) (fun cdv A outer s H vs Q E hr h => ⟨t__law_row g (WF E), ?_, lift_body (by decide) (d__law_row (g := g)) h⟩)
  have tk : Takes (cxOf (L2.CX P w) P w g.K mg base nm__law_row "_law_row" (defScope s__law_row) f cdv A outer s H E) (WF E) := takes_of rfl rfl rfl rfl
  have pw_own : PassesOwn (model P w) (cxOf (L2.CX P w) P w g.K mg base nm__law_row "_law_row" (defScope s__law_row) f cdv A outer s H E).A (cxOf (L2.CX P w) P w g.K mg base nm__law_row "_law_row" (defScope s__law_row) f cdv A outer s H E).env (cxOf (L2.CX P w) P w g.K mg base nm__law_row "_law_row" (defScope s__law_row) f cdv A outer s H E).xe := passes_of rfl
  exact (pss_cons (ps_set (i := 2) sc__law_row.nd rfl (by first | exact Or.inl rfl | exact Or.inr rfl) (pe_strN (by decide +kernel))) (pss_cons (ps_for pw_own rfl (pi_range1 rfl T.b_range (pa_cons (pe_op op_addA pe_int (pe_c c__law_draw hr (by decide) rfl tk (pa_cons (pv 0) (pa_cons (pv 1) (pa_cons pe_int pa_nil))))) pa_nil)) (pg_name (i := 3) sc__law_row.nd rfl (by first | exact Or.inl rfl | exact Or.inr rfl)) (pss_cons (ps_set (i := 2) sc__law_row.nd rfl (by first | exact Or.inl rfl | exact Or.inr rfl) (pe_op op_addA (pv 2) (pe_c c__law_pick hr (by decide) rfl tk (pa_cons (pv 0) (pa_cons (pv 1) (pa_cons (pe_lst (pa_cons (pe_strN (by decide +kernel)) (pa_cons (pe_strN (by decide +kernel)) (pa_cons (pe_strN (by decide +kernel)) (pa_cons (pe_strN (by decide +kernel)) (pa_cons (pe_strN (by decide +kernel)) (pa_cons (pe_strN (by decide +kernel)) (pa_cons (pe_strN (by decide +kernel)) pa_nil)))))))) pa_nil)))))) (pss_one (ps_set (i := 2) sc__law_row.nd rfl (by first | exact Or.inl rfl | exact Or.inr rfl) (pe_op op_addA (pv 2) (pe_c c__law_pick hr (by decide) rfl tk (pa_cons (pv 0) (pa_cons (pv 1) (pa_cons (pe_lst (pa_cons (pe_strN (by decide +kernel)) (pa_cons (pe_strN (by decide +kernel)) (pa_cons (pe_strN (by decide +kernel)) pa_nil)))) pa_nil))))))))) (pss_one (ps_ret (pv 2)))))
abbrev s__law_query : Stmt := top 54
theorem sc__law_query : FnScope nm__law_query ["_law_script", "_law_town"] (defScope s__law_query) := C8.fnScope_by (by decide +kernel)
theorem ok__law_query {P : Program} {w : World} {mg : Str → Option Value} {base : Heap} {g : G} {f : Addr} {fd : FuncData} (F : Fun g.K "_law_query" "_law_query" s__law_query f fd) (T : Txt w mg g) (c__law_draw : Cal P w g.K mg base 3 "_law_draw" (sp__law_draw g)) (c__law_pick : Cal P w g.K mg base 4 "_law_pick" (sp__law_pick g)) : FnOk P w g.K mg base (L2.CX P w) 5 f fd ["_law_script", "_law_town"] (sp__law_query g) := by
  refine F.okX sc__law_query (fun vs H Q E h => lift_len h) (fun cdv A outer s H vs Q E hr h => ⟨t__law_query g (WF E), ?_, lift_body (by decide) (d__law_query (g := g)) h⟩)
  have tk : Takes (cxOf (L2.CX P w) P w g.K mg base nm__law_query "_law_query" (defScope s__law_query) f cdv A outer s H E) (WF E) := takes_of rfl rfl rfl rfl
  have pw_own : PassesOwn (model P w) (cxOf (L2.CX P w) P w g.K mg base nm__law_query "_law_query" (defScope s__law_query) f cdv A outer s H E).A (cxOf (L2.CX P w) P w g.K mg base nm__law_query "_law_query" (defScope s__law_query) f cdv A outer s H E).env (cxOf (L2.CX P w) P w g.K mg base nm__law_query "_law_query" (defScope s__law_query) f cdv A outer s H E).xe := passes_of rfl
  exact (pss_cons (ps_set (i := 2) sc__law_query.nd rfl (by first | exact Or.inl rfl | exact Or.inr rfl) (pe_strN (by decide +kernel))) (pss_cons (ps_for pw_own rfl (pi_range1 rfl T.b_range (pa_cons (pe_c c__law_draw hr (by decide) rfl tk (pa_cons (pv 0) (pa_cons (pv 1) (pa_cons pe_int pa_nil)))) pa_nil)) (pg_name (i := 3) sc__law_query.nd rfl (by first | exact Or.inl rfl | exact Or.inr rfl)) (pss_one (ps_set (i := 2) sc__law_query.nd rfl (by first | exact Or.inl rfl | exact Or.inr rfl) (pe_op op_addA (pv 2) (pe_c c__law_pick hr (by decide) rfl tk (pa_cons (pv 0) (pa_cons (pv 1) (pa_cons (pe_lst (pa_cons (pe_strN (by decide +kernel)) (pa_cons (pe_strN (by decide +kernel)) (pa_cons (pe_strN (by decide +kernel)) (pa_cons (pe_strN (by decide +kernel)) (pa_cons (pe_strN (by decide +kernel)) (pa_cons (pe_strN (by decide +kernel)) pa_nil))))))) pa_nil)))))))) (pss_one (ps_ret (pv 2)))))
abbrev s__law_deed : Stmt := top 55
theorem sc__law_deed : FnScope nm__law_deed ["_law_script", "_law_town"] (defScope s__law_deed) := C8.fnScope_by (by decide +kernel)
theorem ok__law_deed {P : Program} {w : World} {mg : Str → Option Value} {base : Heap} {g : G} {f : Addr} {fd : FuncData} (F : Fun g.K "_law_deed" "_law_deed" s__law_deed f fd) (T : Txt w mg g) (c__law_draw : Cal P w g.K mg base 3 "_law_draw" (sp__law_draw g)) (c__law_pick : Cal P w g.K mg base 4 "_law_pick" (sp__law_pick g)) (c__law_query : Cal P w g.K mg base 5 "_law_query" (sp__law_query g)) (c__law_row : Cal P w g.K mg base 5 "_law_row" (sp__law_row g)) : FnOk P w g.K mg base (L2.CX P w) 6 f fd ["_law_script", "_law_town"] (sp__law_deed g) := by
  refine F.okX sc__law_deed (fun vs H Q E h => lift_len h) (fun cdv A outer s H vs Q E hr h => ⟨t__law_deed g (WF E), ?_, lift_body (by decide) (d__law_deed (g := g)) h⟩)
  have tk : Takes (cxOf (L2.CX P w) P w g.K mg base nm__law_deed "_law_deed" (defScope s__law_deed) f cdv A outer s H E) (WF E) := takes_of rfl rfl rfl rfl
  skip
  exact (pss_cons (ps_set (i := 2) sc__law_deed.nd rfl (by first | exact Or.inl rfl | exact Or.inr rfl) (pe_c c__law_draw hr (by decide) rfl tk (pa_cons (pv 0) (pa_cons (pv 1) (pa_cons pe_int pa_nil))))) (pss_cons (ps_if (pt_cmpR op_lt (pv 2) pe_int (nomark _)) (pss_one (ps_ret (pe_tup (pa_cons (pe_strN (by decide +kernel)) (pa_cons (pe_c c__law_pick hr (by decide) rfl tk (pa_cons (pv 0) (pa_cons (pv 1) (pa_cons (pe_lst (pa_cons (pe_strN (by decide +kernel)) (pa_cons (pe_strN (by decide +kernel)) (pa_cons (pe_strN (by decide +kernel)) (pa_cons (pe_strN (by decide +kernel)) (pa_cons (pe_strN (by decide +kernel)) (pa_cons (pe_strN (by decide +kernel)) (pa_cons (pe_strN (by decide +kernel)) pa_nil)))))))) pa_nil)))) pa_nil))))) pss_nil) (pss_cons (ps_if (pt_cmpR op_lt (pv 2) pe_int (nomark _)) (pss_one (ps_ret (pe_tup (pa_cons (pe_strN (by decide +kernel)) (pa_cons (pe_c c__law_pick hr (by decide) rfl tk (pa_cons (pv 0) (pa_cons (pv 1) (pa_cons (pe_lst (pa_cons pe_int (pa_cons pe_int (pa_cons pe_int (pa_cons pe_int (pa_cons pe_int (pa_cons pe_int (pa_cons pe_int (pa_cons pe_int pa_nil))))))))) pa_nil)))) pa_nil))))) pss_nil) (pss_cons (ps_if (pt_cmpR (op_eqA hr.units) (pv 2) pe_int (nomark _)) (pss_one (ps_ret (pe_tup (pa_cons (pe_strN (by decide +kernel)) (pa_cons (pe_c c__law_pick hr (by decide) rfl tk (pa_cons (pv 0) (pa_cons (pv 1) (pa_cons (pe_lst (pa_cons (pe_c c__law_query hr (by decide) rfl tk (pa_cons (pv 0) (pa_cons (pv 1) pa_nil))) (pa_cons (pe_strN (by decide +kernel)) (pa_cons (pe_op op_mulA (pe_strN (by decide +kernel)) pe_int) pa_nil)))) pa_nil)))) pa_nil))))) pss_nil) (pss_cons (ps_if (pt_cmpR (op_eqA hr.units) (pv 2) pe_int (nomark _)) (pss_one (ps_ret (pe_c c__law_pick hr (by decide) rfl tk (pa_cons (pv 0) (pa_cons (pv 1) (pa_cons (pe_lst (pa_cons (pe_tup (pa_cons (pe_strN (by decide +kernel)) pa_nil)) (pa_cons (pe_tup (pa_cons (pe_strN (by decide +kernel)) pa_nil)) pa_nil))) pa_nil)))))) pss_nil) (pss_cons (ps_if (pt_cmpR op_lt (pv 2) pe_int (nomark _)) (pss_one (ps_ret (pe_tup (pa_cons (pe_strN (by decide +kernel)) (pa_cons (pe_c c__law_pick hr (by decide) rfl tk (pa_cons (pv 0) (pa_cons (pv 1) (pa_cons (pe_lst (pa_cons (pe_c c__law_row hr (by decide) rfl tk (pa_cons (pv 0) (pa_cons (pv 1) pa_nil))) (pa_cons (pe_strN (by decide +kernel)) (pa_cons (pe_strN (by decide +kernel)) (pa_cons (pe_strN (by decide +kernel)) (pa_cons (pe_op op_mulA (pe_strN (by decide +kernel)) pe_int) pa_nil)))))) pa_nil)))) pa_nil))))) pss_nil) (pss_one (ps_ret (pe_tup (pa_cons (pe_strN (by decide +kernel)) (pa_cons (pe_c c__law_pick hr (by decide) rfl tk (pa_cons (pv 0) (pa_cons (pv 1) (pa_cons (pe_lst (pa_cons (pe_strN (by decide +kernel)) (pa_cons (pe_strN (by decide +kernel)) (pa_cons (pe_strN (by decide +kernel)) (pa_cons (pe_c c__law_row hr (by decide) rfl tk (pa_cons (pv 0) (pa_cons (pv 1) pa_nil))) pa_nil))))) pa_nil)))) pa_nil)))))))))))
abbrev s__law_text : Stmt := top 57
theorem sc__law_text : FnScope nm__law_text ["_law_deeds"] (defScope s__law_text) := C8.fnScope_by (by decide +kernel)
theorem ok__law_text {P : Program} {w : World} {mg : Str → Option Value} {base : Heap} {g : G} {f : Addr} {fd : FuncData} (F : Fun g.K "_law_text" "_law_text" s__law_text f fd) (T : Txt w mg g)  : FnOk P w g.K mg base (L2.CX P w) 1 f fd ["_law_deeds"] (sp__law_text g) := by
  refine F.okX sc__law_text (fun vs H Q E h => lift_len h) (fun cdv A outer s H vs Q E hr h => ⟨t__law_text g (WF E), ?_, lift_body (by decide) (d__law_text (g := g)) h⟩)
  have tk : Takes (cxOf (L2.CX P w) P w g.K mg base nm__law_text "_law_text" (defScope s__law_text) f cdv A outer s H E) (WF E) := takes_of rfl rfl rfl rfl
  have pw_own : PassesOwn (model P w) (cxOf (L2.CX P w) P w g.K mg base nm__law_text "_law_text" (defScope s__law_text) f cdv A outer s H E).A (cxOf (L2.CX P w) P w g.K mg base nm__law_text "_law_text" (defScope s__law_text) f cdv A outer s H E).env (cxOf (L2.CX P w) P w g.K mg base nm__law_text "_law_text" (defScope s__law_text) f cdv A outer s H E).xe := passes_of rfl
  exact (pss_cons (ps_set (i := 1) sc__law_text.nd rfl (by first | exact Or.inl rfl | exact Or.inr rfl) (pe_strN (by decide +kernel))) (pss_cons (ps_for pw_own rfl (pi_range1 rfl T.b_range (pa_cons (pe_callB cr_lenA (by rfl) T.b_len (by decide +kernel) (pa_cons (pv 0) pa_nil)) pa_nil)) (pg_name (i := 2) sc__law_text.nd rfl (by first | exact Or.inl rfl | exact Or.inr rfl)) (pss_cons (ps_set (i := 1) sc__law_text.nd rfl (by first | exact Or.inl rfl | exact Or.inr rfl) (pe_op op_addA (pe_op op_addA (pv 1) (pe_ifExp (pt_cmpR op_gt (pv 2) pe_int (nomark _)) (pe_strN (by decide +kernel)) (pe_strN (by decide +kernel)))) (pe_ix ix_seq (pe_ix ix_seq (pv 0) (pv 2) (fun _ _ => rfl)) pe_int (fun _ _ => rfl)))) (pss_one (ps_if (pt_cmpR op_gt (pe_callB cr_lenA (by rfl) T.b_len (by decide +kernel) (pa_cons (pe_ix ix_seq (pv 0) (pv 2) (fun _ _ => rfl)) pa_nil)) pe_int (nomark _)) (pss_one (ps_set (i := 1) sc__law_text.nd rfl (by first | exact Or.inl rfl | exact Or.inr rfl) (pe_op op_addA (pe_op op_addA (pv 1) (pe_strN (by decide +kernel))) (pe_callTy cr_strA (by rfl) T.b_str (by decide +kernel) (pa_cons (pe_ix ix_seq (pe_ix ix_seq (pv 0) (pv 2) (fun _ _ => rfl)) pe_int (fun _ _ => rfl)) pa_nil))))) pss_nil)))) (pss_one (ps_ret (pv 1)))))
abbrev s__law_one : Stmt := top 58
theorem sc__law_one : FnScope nm__law_one ["_law_kind", "_law_given"] (defScope s__law_one) := C8.fnScope_by (by decide +kernel)
theorem ok__law_one {P : Program} {w : World} {mg : Str → Option Value} {base : Heap} {g : G} {f : Addr} {fd : FuncData} (F : Fun g.K "_law_one" "_law_one" s__law_one f fd) (T : Txt w mg g) (c_read_diary : Cal P w g.K mg base 3 "read_diary" (sp_read_diary g)) (c_diary_text : Cal P w g.K mg base 4 "diary_text" (sp_diary_text g)) (c_played : Cal P w g.K mg base 11 "played" (sp_played g)) : FnOk P w g.K mg base (L2.CX P w) 12 f fd ["_law_kind", "_law_given"] (sp__law_one g) := by
  refine F.okX sc__law_one (fun vs H Q E h => lift_len h) (fun cdv A outer s H vs Q E hr h => ⟨t__law_one g (WF E), ?_, lift_body (by decide) (d__law_one (g := g)) h⟩)
  have tk : Takes (cxOf (L2.CX P w) P w g.K mg base nm__law_one "_law_one" (defScope s__law_one) f cdv A outer s H E) (WF E) := takes_of rfl rfl rfl rfl
  skip
  exact (pss_cons (ps_if (pt_cmpR op_lt (pv 0) pe_int (nomark _)) (pss_one (ps_ret (pe_ifExp (pt_cmpR (op_eqA hr.units) (pv 0) pe_int (nomark _)) (pe_c c_read_diary hr (by decide) rfl tk (pa_cons (pv 1) pa_nil)) (pe_c c_diary_text hr (by decide) rfl tk (pa_cons (pv 1) pa_nil))))) pss_nil) (pss_one (ps_ret (pe_ifExp (pt_cmpR (op_eqA hr.units) (pv 0) pe_int (nomark _)) (pe_c c_played hr (by decide) rfl tk (pa_cons (pe_lst (pa_cons pe_int pa_nil)) (pa_cons (pe_tup (pa_cons pe_int (pa_cons pe_int pa_nil))) (pa_cons (pe_tup (pa_cons pe_int (pa_cons pe_int (pa_cons pe_int (pa_cons pe_int pa_nil))))) (pa_cons (pv 1) pa_nil))))) (pe_c c_played hr (by decide) rfl tk (pa_cons (pe_lst (pa_cons pe_int pa_nil)) (pa_cons (pe_tup (pa_cons pe_int (pa_cons pe_int pa_nil))) (pa_cons (pe_tup (pa_cons pe_int (pa_cons pe_int (pa_cons pe_int (pa_cons pe_int pa_nil))))) (pa_cons (pv 1) pa_nil)))))))))
abbrev s__law_told : Stmt := top 59
theorem sc__law_told : FnScope nm__law_told ["_law_kind", "_law_some"] (defScope s__law_told) := C8.fnScope_by (by decide +kernel)
theorem ok__law_told {P : Program} {w : World} {mg : Str → Option Value} {base : Heap} {g : G} {f : Addr} {fd : FuncData} (F : Fun g.K "_law_told" "_law_told" s__law_told f fd) (T : Txt w mg g) (c__law_one : Cal P w g.K mg base 12 "_law_one" (sp__law_one g)) (c__law_refusal : Cal P w g.K mg base 1 "_law_refusal" (sp__law_refusal g)) : FnOk P w g.K mg base (L2.CX P w) 13 f fd ["_law_kind", "_law_some"] (sp__law_told g) := by
  refine F.okX sc__law_told (fun vs H Q E h => lift_len h) (fun cdv A outer s H vs Q E hr h => ⟨t__law_told g (WF E), ?_, lift_body (by decide) (d__law_told (g := g) T.x) h⟩)
  have tk : Takes (cxOf (L2.CX P w) P w g.K mg base nm__law_told "_law_told" (defScope s__law_told) f cdv A outer s H E) (WF E) := takes_of rfl rfl rfl rfl
  skip
  exact (pss_cons (ps_set (i := 2) sc__law_told.nd rfl (by first | exact Or.inl rfl | exact Or.inr rfl) pe_non) (pss_cons (ps_set (i := 3) sc__law_told.nd rfl (by first | exact Or.inl rfl | exact Or.inr rfl) pe_non) (pss_cons (ps_hold (i := 4) (h := 2) rfl rfl rfl sc__law_told.nd rfl rfl rfl rfl rfl ⟨rfl, by decide, Or.inl T.x_AskError.gC⟩ (fun W' pn xe tk' _ => (pss_one (ps_set (i := 3) sc__law_told.nd rfl (by first | exact Or.inl rfl | exact Or.inr rfl) (pe_c c__law_one hr (by decide) rfl tk' (pa_cons (pv 0) (pa_cons (pv 1) pa_nil)))))) (fun _ _ => rfl)) (pss_one (ps_ret (pe_ifExp (pt_cmpR op_isNo (pv 2) pe_non (nomark _)) (pe_tup (pa_cons (pe_strN (by decide +kernel)) (pa_cons (pv 3) pa_nil))) (pe_c c__law_refusal hr (by decide) rfl tk (pa_cons (pv 2) pa_nil))))))))
abbrev s_law : Stmt := top 60
theorem sc_law : FnScope nm_law ["_law_script"] (defScope s_law) := C8.fnScope_by (by decide +kernel)
theorem ok_law {P : Program} {w : World} {mg : Str → Option Value} {base : Heap} {g : G} {f : Addr} {fd : FuncData} (F : Fun g.K "law" "law" s_law f fd) (T : Txt w mg g) (c__law_draw : Cal P w g.K mg base 3 "_law_draw" (sp__law_draw g)) (c__law_deed : Cal P w g.K mg base 6 "_law_deed" (sp__law_deed g)) (c__law_text : Cal P w g.K mg base 1 "_law_text" (sp__law_text g)) (c__law_told : Cal P w g.K mg base 13 "_law_told" (sp__law_told g)) (c__law_pick : Cal P w g.K mg base 4 "_law_pick" (sp__law_pick g)) : FnOk P w g.K mg base (L2.CX P w) 14 f fd ["_law_script"] (sp_law g) := by
  refine F.okX sc_law (fun vs H Q E h => lift_len h) (fun cdv A outer s H vs Q E hr h => ⟨t_law g (WF E), ?_, lift_body (by decide) (d_law (g := g)) h⟩)
  have tk : Takes (cxOf (L2.CX P w) P w g.K mg base nm_law "law" (defScope s_law) f cdv A outer s H E) (WF E) := takes_of rfl rfl rfl rfl
  have pw_own : PassesOwn (model P w) (cxOf (L2.CX P w) P w g.K mg base nm_law "law" (defScope s_law) f cdv A outer s H E).A (cxOf (L2.CX P w) P w g.K mg base nm_law "law" (defScope s_law) f cdv A outer s H E).env (cxOf (L2.CX P w) P w g.K mg base nm_law "law" (defScope s_law) f cdv A outer s H E).xe := passes_of rfl
  exact (pss_cons (ps_set (i := 1) sc_law.nd rfl (by first | exact Or.inl rfl | exact Or.inr rfl) (pe_lst pa_nil)) (pss_cons (by first | exact (ps_setLc (i := 2) (own := [("_law_k", 13)]) (g := (gName 13)) (tt := tYes) (te := (tCallS (sp__law_deed g) (WE W0) (tCons (tVar 0) (tCons (tVar 1) tNil)))) rfl sc_law.nd rfl rfl (sw_true rfl rfl rfl (by decide +kernel)) (pi_range1 rfl T.b_range (pa_cons (pe_c c__law_draw hr (by decide) rfl tk (pa_cons (pv 0) (pa_cons (pv 1) (pa_cons pe_int pa_nil)))) pa_nil)) (blkOk_by (own := [("_law_k", 13)]) (N := nm_law) (sc := defScope s_law) (by decide +kernel)) (fun _ _ _ _ _ => (pg_name (i := 13) sc_law.nd rfl (by first | exact Or.inl rfl | exact Or.inr rfl))) (fun _ _ _ _ _ => pts_nil) (fun _ _ _ _ _ => (pe_c c__law_deed hr (by decide) rfl takes0 (pa_cons (pv 0) (pa_cons (pv 1) pa_nil))))) | exact (ps_set (i := 2) sc_law.nd rfl (by first | exact Or.inl rfl | exact Or.inr rfl) (pe_lc (own := [("_law_k", 13)]) (g := (gName 13)) (tt := tYes) (te := (tCallS (sp__law_deed g) (WE W0) (tCons (tVar 0) (tCons (tVar 1) tNil)))) rfl sc_law.nd (pi_range1 rfl T.b_range (pa_cons (pe_c c__law_draw hr (by decide) rfl tk (pa_cons (pv 0) (pa_cons (pv 1) (pa_cons pe_int pa_nil)))) pa_nil)) (blkOk_by (own := [("_law_k", 13)]) (N := nm_law) (sc := defScope s_law) (by decide +kernel)) (fun _ _ _ _ _ => (pg_name (i := 13) sc_law.nd rfl (by first | exact Or.inl rfl | exact Or.inr rfl))) (fun _ _ _ _ _ => pts_nil) (fun _ _ _ _ _ => (pe_c c__law_deed hr (by decide) rfl takes0 (pa_cons (pv 0) (pa_cons (pv 1) pa_nil))))))) (pss_cons (ps_set (i := 3) sc_law.nd rfl (by first | exact Or.inl rfl | exact Or.inr rfl) (pe_c c__law_text hr (by decide) rfl tk (pa_cons (pv 2) pa_nil))) (pss_cons (ps_if (PW.pt (pw_or (pt_cmpR (op_neA hr.units) (pe_c c__law_told hr (by decide) rfl tk (pa_cons pe_int (pa_cons (pv 2) pa_nil))) (pe_tup (pa_cons (pe_strN (by decide +kernel)) (pa_cons (pv 3) pa_nil))) (nomark _)) (pw_or1 (pt_cmpR (op_neA hr.units) (pe_c c__law_told hr (by decide) rfl tk (pa_cons pe_int (pa_cons (pv 3) pa_nil))) (pe_tup (pa_cons (pe_strN (by decide +kernel)) (pa_cons (pv 2) pa_nil))) (nomark _))))) (pss_one (ps_ret pe_bl)) pss_nil) (pss_cons (ps_set (i := 4) sc_law.nd rfl (by first | exact Or.inl rfl | exact Or.inr rfl) (pe_c c__law_draw hr (by decide) rfl tk (pa_cons (pv 0) (pa_cons (pv 1) (pa_cons (pe_op op_addA (pe_callB cr_lenA (by rfl) T.b_len (by decide +kernel) (pa_cons (pv 2) pa_nil)) pe_int) pa_nil))))) (pss_cons (ps_set (i := 5) sc_law.nd rfl (by first | exact Or.inl rfl | exact Or.inr rfl) (pe_lst (pa_cons (pe_tup (pa_cons (pe_tup pa_nil) (pa_cons (pe_strN (by decide +kernel)) pa_nil))) (pa_cons (pe_tup (pa_cons (pe_tup (pa_cons (pe_strN (by decide +kernel)) (pa_cons (pe_strN (by decide +kernel)) pa_nil))) (pa_cons (pe_strN (by decide +kernel)) pa_nil))) (pa_cons (pe_tup (pa_cons (pe_tup (pa_cons (pe_strN (by decide +kernel)) (pa_cons (pe_strN (by decide +kernel)) pa_nil))) (pa_cons (pe_strN (by decide +kernel)) pa_nil))) (pa_cons (pe_tup (pa_cons (pe_tup (pa_cons (pe_strN (by decide +kernel)) pa_nil)) (pa_cons (pe_strN (by decide +kernel)) pa_nil))) (pa_cons (pe_tup (pa_cons (pe_tup (pa_cons (pe_strN (by decide +kernel)) (pa_cons pe_int pa_nil))) (pa_cons (pe_strN (by decide +kernel)) pa_nil))) pa_nil))))))) (pss_cons (ps_set (i := 5) sc_law.nd rfl (by first | exact Or.inl rfl | exact Or.inr rfl) (pe_op op_addA (pv 5) (pe_lst (pa_cons (pe_tup (pa_cons (pe_tup (pa_cons (pe_strN (by decide +kernel)) (pa_cons (pe_op op_sub pe_int pe_int) pa_nil))) (pa_cons (pe_strN (by decide +kernel)) pa_nil))) (pa_cons (pe_tup (pa_cons (pe_tup (pa_cons (pe_strN (by decide +kernel)) (pa_cons (pe_op op_mulA (pe_strN (by decide +kernel)) pe_int) pa_nil))) (pa_cons (pe_strN (by decide +kernel)) pa_nil))) (pa_cons (pe_tup (pa_cons (pe_tup (pa_cons (pe_strN (by decide +kernel)) (pa_cons (pe_strN (by decide +kernel)) pa_nil))) (pa_cons (pe_strN (by decide +kernel)) pa_nil))) pa_nil)))))) (pss_cons (ps_expr (pe_bm PySem.F.plainAttrs_list PySem.F.slot_list_append PySem.F.type_list_append mt_append (pv 5) (pa_cons (pe_tup (pa_cons (pe_tup (pa_cons (pe_strN (by decide +kernel)) (pa_cons (pe_op op_mulA (pe_strN (by decide +kernel)) pe_int) pa_nil))) (pa_cons (pe_strN (by decide +kernel)) pa_nil))) pa_nil))) (pss_cons (ps_asg (pe_c c__law_pick hr (by decide) rfl tk (pa_cons (pv 0) (pa_cons (pv 1) (pa_cons (pv 5) pa_nil)))) (pg_tup rfl (pgs_cons (pg_name (i := 6) sc_law.nd rfl (by first | exact Or.inl rfl | exact Or.inr rfl)) (pgs_cons (pg_name (i := 7) sc_law.nd rfl (by first | exact Or.inl rfl | exact Or.inr rfl)) pgs_nil)))) (pss_cons (ps_set (i := 8) sc_law.nd rfl (by first | exact Or.inl rfl | exact Or.inr rfl) (pe_op op_addA (pe_op op_addA (pe_slice sl_A (pv 2) po_none (po_some (pv 4))) (pe_lst (pa_cons (pv 6) pa_nil))) (pe_slice sl_A (pv 2) (po_some (pv 4)) po_none))) (pss_cons (ps_if (pt_cmpR (op_neA hr.units) (pe_lc (own := [("_law_kind", 14)]) (g := (gName 14)) (tt := tYes) (te := (tCallS (sp__law_told g) (WE W0) (tCons (tVar 14) (tCons (tCB (rListA g.K) (tCons (tVar 8) tNil)) tNil)))) rfl sc_law.nd (pi_tup (pe_tup (pa_cons pe_int (pa_cons pe_int (pa_cons pe_int pa_nil))))) (blkOk_by (own := [("_law_kind", 14)]) (N := nm_law) (sc := defScope s_law) (by decide +kernel)) (fun _ _ _ _ _ => (pg_name (i := 14) sc_law.nd rfl (by first | exact Or.inl rfl | exact Or.inr rfl))) (fun _ _ _ _ _ => pts_nil) (fun _ _ _ _ _ => (pe_c c__law_told hr (by decide) rfl takes0 (pa_cons (pv 14) (pa_cons (pe_callTy cr_listA (by rfl) T.b_list (by decide +kernel) (pa_cons (pv 8) pa_nil)) pa_nil))))) (pe_op op_mulA (pe_lst (pa_cons (pe_tup (pa_cons (pe_strN (by decide +kernel)) (pa_cons (pv 7) pa_nil))) pa_nil)) pe_int) (nomark _)) (pss_one (ps_ret pe_bl)) pss_nil) (pss_cons (ps_if (pt_cmpR (op_neA hr.units) (pe_c c__law_told hr (by decide) rfl tk (pa_cons pe_int (pa_cons (pe_lst pa_nil) pa_nil))) (pe_tup (pa_cons (pe_strN (by decide +kernel)) (pa_cons (pe_strN (by decide +kernel)) pa_nil))) (nomark _)) (pss_one (ps_ret pe_bl)) pss_nil) (pss_cons (ps_for pw_own rfl (pi_range1 rfl T.b_range (pa_cons pe_int pa_nil)) (pg_name (i := 9) sc_law.nd rfl (by first | exact Or.inl rfl | exact Or.inr rfl)) (pss_cons (ps_set (i := 4) sc_law.nd rfl (by first | exact Or.inl rfl | exact Or.inr rfl) (pe_c c__law_draw hr (by decide) rfl tk (pa_cons (pv 0) (pa_cons (pv 1) (pa_cons (pe_op op_addA (pe_callB cr_lenA (by rfl) T.b_len (by decide +kernel) (pa_cons (pv 3) pa_nil)) pe_int) pa_nil))))) (pss_cons (ps_set (i := 10) sc_law.nd rfl (by first | exact Or.inl rfl | exact Or.inr rfl) (pe_c c__law_pick hr (by decide) rfl tk (pa_cons (pv 0) (pa_cons (pv 1) (pa_cons (pe_lst (pa_cons (pe_strN (by decide +kernel)) (pa_cons (pe_strN (by decide +kernel)) (pa_cons (pe_strN (by decide +kernel)) (pa_cons (pe_strN (by decide +kernel)) (pa_cons (pe_strN (by decide +kernel)) (pa_cons (pe_strN (by decide +kernel)) (pa_cons (pe_strN (by decide +kernel)) (pa_cons (pe_strN (by decide +kernel)) (pa_cons (pe_strN (by decide +kernel)) (pa_cons (pe_strN (by decide +kernel)) (pa_cons (pe_strN (by decide +kernel)) pa_nil)))))))))))) pa_nil))))) (pss_cons (ps_set (i := 11) sc_law.nd rfl (by first | exact Or.inl rfl | exact Or.inr rfl) (pe_op op_addA (pe_op op_addA (pe_slice sl_A (pv 3) po_none (po_some (pv 4))) (pv 10)) (pe_slice sl_A (pv 3) (po_some (pe_op op_addA (pv 4) (pe_c c__law_draw hr (by decide) rfl tk (pa_cons (pv 0) (pa_cons (pv 1) (pa_cons pe_int pa_nil)))))) po_none))) (pss_cons (ps_set (i := 12) sc_law.nd rfl (by first | exact Or.inl rfl | exact Or.inr rfl) (pe_c c__law_told hr (by decide) rfl tk (pa_cons pe_int (pa_cons (pv 11) pa_nil)))) (pss_one (ps_if (pt_cmpR (op_eqA hr.units) (pe_ix ix_seq (pv 12) pe_int (fun _ _ => rfl)) (pe_strN (by decide +kernel)) (nomark _)) (pss_one (ps_if (PW.pt (pw_or (pt_cmpR (op_neA hr.units) (pe_c c__law_text hr (by decide) rfl tk (pa_cons (pe_ix ix_seq (pv 12) pe_int (fun _ _ => rfl)) pa_nil)) (pv 11) (nomark _)) (pw_or1 (pt_cmpR (op_neA hr.units) (pe_c c__law_told hr (by decide) rfl tk (pa_cons pe_int (pa_cons (pe_ix ix_seq (pv 12) pe_int (fun _ _ => rfl)) pa_nil))) (pe_tup (pa_cons (pe_strN (by decide +kernel)) (pa_cons (pv 11) pa_nil))) (nomark _))))) (pss_one (ps_ret pe_bl)) pss_nil)) (pss_one (ps_if (pt_cmpR (op_neA hr.units) (pv 12) (pe_tup (pa_cons (pe_strN (by decide +kernel)) (pa_cons (pe_strN (by decide +kernel)) pa_nil))) (nomark _)) (pss_one (ps_ret pe_bl)) pss_nil))))))))) (pss_cons (ps_set (i := 5) sc_law.nd rfl (by first | exact Or.inl rfl | exact Or.inr rfl) (pe_lst (pa_cons (pe_strN (by decide +kernel)) (pa_cons (pe_strN (by decide +kernel)) (pa_cons (pe_strN (by decide +kernel)) (pa_cons (pe_strN (by decide +kernel)) (pa_cons (pe_strN (by decide +kernel)) (pa_cons (pe_strN (by decide +kernel)) (pa_cons (pe_strN (by decide +kernel)) (pa_cons (pe_strN (by decide +kernel)) (pa_cons (pe_strN (by decide +kernel)) (pa_cons (pe_strN (by decide +kernel)) pa_nil)))))))))))) (pss_cons (ps_set (i := 5) sc_law.nd rfl (by first | exact Or.inl rfl | exact Or.inr rfl) (pe_op op_addA (pv 5) (pe_lst (pa_cons (pe_strN (by decide +kernel)) (pa_cons (pe_strN (by decide +kernel)) (pa_cons (pe_strN (by decide +kernel)) pa_nil)))))) (pss_one (ps_ret (pe_cmpR (op_eqA hr.units) (pe_c c__law_told hr (by decide) rfl tk (pa_cons pe_int (pa_cons (pe_c c__law_pick hr (by decide) rfl tk (pa_cons (pv 0) (pa_cons (pv 1) (pa_cons (pv 5) pa_nil)))) pa_nil))) (pe_tup (pa_cons (pe_strN (by decide +kernel)) (pa_cons (pe_strN (by decide +kernel)) pa_nil))) (nomark _)))))))))))))))))))
theorem all_mk {P : Program} {w : World} {K : PySem.W.Frag} {h : Heap} {mg : Str → Option Value} {fa cE cT cN cA cS cH cR cK aW : Addr} (X : K.In h) (G0 : h.Ns mainGlobals mg) (hfa : mg "law" = some (.ref fa))
    {t_MOST_ROW : Tok}
    {t_MOST_TYPED : Tok}
    {t_MOST_ANSWER : Tok}
    {t_MOST_ROWS : Tok}
    {t_MOST_PAUSE : Tok}
    {t_MOST_ASKS : Tok}
    {t_MOST_PATIENCE : Tok}
    {t_TRIES : Tok}
    {t_MOST_TICKS : Tok}
    {t_MOST_DELAYS : Tok}
    {t_MOST_DELAY : Tok}
    {t_MOST_KEPT : Tok}
    {t_MOST_TERM : Tok}
    {hW0 hW1 hW2 hW3 hW4 hW5 hW6 : Int} {tW0 tW1 tW2 tW3 tW4 tW5 tW6 uW0 uW1 uW2 uW3 uW4 uW5 uW6 : Tok} {nW : Nat}
    {t_MOST_TICK : Tok}
    {t_MOST_SIGNS : Tok}
    {t_FIGURES : Tok}
    {f__law_cell : Addr} {od__law_cell an__law_cell : Option Addr} {sl__law_cell : Array (Option Value)} {oc__law_cell kV__law_cell dc__law_cell pm__law_cell cd__law_cell ct__law_cell : Value}
    {f__law_mix : Addr} {od__law_mix an__law_mix : Option Addr} {sl__law_mix : Array (Option Value)} {oc__law_mix kV__law_mix dc__law_mix pm__law_mix cd__law_mix ct__law_mix : Value}
    {f__law_draw : Addr} {od__law_draw an__law_draw : Option Addr} {sl__law_draw : Array (Option Value)} {oc__law_draw kV__law_draw dc__law_draw pm__law_draw cd__law_draw ct__law_draw : Value}
    {f__law_pick : Addr} {od__law_pick an__law_pick : Option Addr} {sl__law_pick : Array (Option Value)} {oc__law_pick kV__law_pick dc__law_pick pm__law_pick cd__law_pick ct__law_pick : Value}
    {f__law_query : Addr} {od__law_query an__law_query : Option Addr} {sl__law_query : Array (Option Value)} {oc__law_query kV__law_query dc__law_query pm__law_query cd__law_query ct__law_query : Value}
    {f__law_row : Addr} {od__law_row an__law_row : Option Addr} {sl__law_row : Array (Option Value)} {oc__law_row kV__law_row dc__law_row pm__law_row cd__law_row ct__law_row : Value}
    {f__law_deed : Addr} {od__law_deed an__law_deed : Option Addr} {sl__law_deed : Array (Option Value)} {oc__law_deed kV__law_deed dc__law_deed pm__law_deed cd__law_deed ct__law_deed : Value}
    {f__law_text : Addr} {od__law_text an__law_text : Option Addr} {sl__law_text : Array (Option Value)} {oc__law_text kV__law_text dc__law_text pm__law_text cd__law_text ct__law_text : Value}
    {f_look_text : Addr} {od_look_text an_look_text : Option Addr} {sl_look_text : Array (Option Value)} {oc_look_text kV_look_text dc_look_text pm_look_text cd_look_text ct_look_text : Value}
    {f_deed_in : Addr} {od_deed_in an_deed_in : Option Addr} {sl_deed_in : Array (Option Value)} {oc_deed_in kV_deed_in dc_deed_in pm_deed_in cd_deed_in ct_deed_in : Value}
    {f_row_of : Addr} {od_row_of an_row_of : Option Addr} {sl_row_of : Array (Option Value)} {oc_row_of kV_row_of dc_row_of pm_row_of cd_row_of ct_row_of : Value}
    {f_read_diary : Addr} {od_read_diary an_read_diary : Option Addr} {sl_read_diary : Array (Option Value)} {oc_read_diary kV_read_diary dc_read_diary pm_read_diary cd_read_diary ct_read_diary : Value}
    {f_look_deed : Addr} {od_look_deed an_look_deed : Option Addr} {sl_look_deed : Array (Option Value)} {oc_look_deed kV_look_deed dc_look_deed pm_look_deed cd_look_deed ct_look_deed : Value}
    {f_look_deeds : Addr} {od_look_deeds an_look_deeds : Option Addr} {sl_look_deeds : Array (Option Value)} {oc_look_deeds kV_look_deeds dc_look_deeds pm_look_deeds cd_look_deeds ct_look_deeds : Value}
    {f_diary_text : Addr} {od_diary_text an_diary_text : Option Addr} {sl_diary_text : Array (Option Value)} {oc_diary_text kV_diary_text dc_diary_text pm_diary_text cd_diary_text ct_diary_text : Value}
    {f_Store___init__ : Addr} {od_Store___init__ an_Store___init__ : Option Addr} {sl_Store___init__ : Array (Option Value)} {oc_Store___init__ kV_Store___init__ dc_Store___init__ pm_Store___init__ cd_Store___init__ ct_Store___init__ : Value}
    {f_Shelf___init__ : Addr} {od_Shelf___init__ an_Shelf___init__ : Option Addr} {sl_Shelf___init__ : Array (Option Value)} {oc_Shelf___init__ kV_Shelf___init__ dc_Shelf___init__ pm_Shelf___init__ cd_Shelf___init__ ct_Shelf___init__ : Value}
    {f_Road___init__ : Addr} {od_Road___init__ an_Road___init__ : Option Addr} {sl_Road___init__ : Array (Option Value)} {oc_Road___init__ kV_Road___init__ dc_Road___init__ pm_Road___init__ cd_Road___init__ ct_Road___init__ : Value}
    {f_look_many : Addr} {od_look_many an_look_many : Option Addr} {sl_look_many : Array (Option Value)} {oc_look_many kV_look_many dc_look_many pm_look_many cd_look_many ct_look_many : Value}
    {f_Asker___init__ : Addr} {od_Asker___init__ an_Asker___init__ : Option Addr} {sl_Asker___init__ : Array (Option Value)} {oc_Asker___init__ kV_Asker___init__ dc_Asker___init__ pm_Asker___init__ cd_Asker___init__ ct_Asker___init__ : Value}
    {f_folded : Addr} {od_folded an_folded : Option Addr} {sl_folded : Array (Option Value)} {oc_folded kV_folded dc_folded pm_folded cd_folded ct_folded : Value}
    {f_Asker_is_fresh : Addr} {od_Asker_is_fresh an_Asker_is_fresh : Option Addr} {sl_Asker_is_fresh : Array (Option Value)} {oc_Asker_is_fresh kV_Asker_is_fresh dc_Asker_is_fresh pm_Asker_is_fresh cd_Asker_is_fresh ct_Asker_is_fresh : Value}
    {f_Asker_view : Addr} {od_Asker_view an_Asker_view : Option Addr} {sl_Asker_view : Array (Option Value)} {oc_Asker_view kV_Asker_view dc_Asker_view pm_Asker_view cd_Asker_view ct_Asker_view : Value}
    {f_Asker_drop_other : Addr} {od_Asker_drop_other an_Asker_drop_other : Option Addr} {sl_Asker_drop_other : Array (Option Value)} {oc_Asker_drop_other kV_Asker_drop_other dc_Asker_drop_other pm_Asker_drop_other cd_Asker_drop_other ct_Asker_drop_other : Value}
    {f_Shelf_source : Addr} {od_Shelf_source an_Shelf_source : Option Addr} {sl_Shelf_source : Array (Option Value)} {oc_Shelf_source kV_Shelf_source dc_Shelf_source pm_Shelf_source cd_Shelf_source ct_Shelf_source : Value}
    {f_rank : Addr} {od_rank an_rank : Option Addr} {sl_rank : Array (Option Value)} {oc_rank kV_rank dc_rank pm_rank cd_rank ct_rank : Value}
    {f_best : Addr} {od_best an_best : Option Addr} {sl_best : Array (Option Value)} {oc_best kV_best dc_best pm_best cd_best ct_best : Value}
    {f_Shelf_get : Addr} {od_Shelf_get an_Shelf_get : Option Addr} {sl_Shelf_get : Array (Option Value)} {oc_Shelf_get kV_Shelf_get dc_Shelf_get pm_Shelf_get cd_Shelf_get ct_Shelf_get : Value}
    {f_Asker_show : Addr} {od_Asker_show an_Asker_show : Option Addr} {sl_Asker_show : Array (Option Value)} {oc_Asker_show kV_Asker_show dc_Asker_show pm_Asker_show cd_Asker_show ct_Asker_show : Value}
    {f_Asker_look_near : Addr} {od_Asker_look_near an_Asker_look_near : Option Addr} {sl_Asker_look_near : Array (Option Value)} {oc_Asker_look_near kV_Asker_look_near dc_Asker_look_near pm_Asker_look_near cd_Asker_look_near ct_Asker_look_near : Value}
    {f_Road_send : Addr} {od_Road_send an_Road_send : Option Addr} {sl_Road_send : Array (Option Value)} {oc_Road_send kV_Road_send dc_Road_send pm_Road_send cd_Road_send ct_Road_send : Value}
    {f_Asker_ask_if_due : Addr} {od_Asker_ask_if_due an_Asker_ask_if_due : Option Addr} {sl_Asker_ask_if_due : Array (Option Value)} {oc_Asker_ask_if_due kV_Asker_ask_if_due dc_Asker_ask_if_due pm_Asker_ask_if_due cd_Asker_ask_if_due ct_Asker_ask_if_due : Value}
    {f_Asker_put : Addr} {od_Asker_put an_Asker_put : Option Addr} {sl_Asker_put : Array (Option Value)} {oc_Asker_put kV_Asker_put dc_Asker_put pm_Asker_put cd_Asker_put ct_Asker_put : Value}
    {f_Asker_key : Addr} {od_Asker_key an_Asker_key : Option Addr} {sl_Asker_key : Array (Option Value)} {oc_Asker_key kV_Asker_key dc_Asker_key pm_Asker_key cd_Asker_key ct_Asker_key : Value}
    {f_Asker_rub : Addr} {od_Asker_rub an_Asker_rub : Option Addr} {sl_Asker_rub : Array (Option Value)} {oc_Asker_rub kV_Asker_rub dc_Asker_rub pm_Asker_rub cd_Asker_rub ct_Asker_rub : Value}
    {f_Road_due : Addr} {od_Road_due an_Road_due : Option Addr} {sl_Road_due : Array (Option Value)} {oc_Road_due kV_Road_due dc_Road_due pm_Road_due cd_Road_due ct_Road_due : Value}
    {f_Store_answer : Addr} {od_Store_answer an_Store_answer : Option Addr} {sl_Store_answer : Array (Option Value)} {oc_Store_answer kV_Store_answer dc_Store_answer pm_Store_answer cd_Store_answer ct_Store_answer : Value}
    {f_Shelf_put : Addr} {od_Shelf_put an_Shelf_put : Option Addr} {sl_Shelf_put : Array (Option Value)} {oc_Shelf_put kV_Shelf_put dc_Shelf_put pm_Shelf_put cd_Shelf_put ct_Shelf_put : Value}
    {f_Asker_try_again : Addr} {od_Asker_try_again an_Asker_try_again : Option Addr} {sl_Asker_try_again : Array (Option Value)} {oc_Asker_try_again kV_Asker_try_again dc_Asker_try_again pm_Asker_try_again cd_Asker_try_again ct_Asker_try_again : Value}
    {f_Asker_step : Addr} {od_Asker_step an_Asker_step : Option Addr} {sl_Asker_step : Array (Option Value)} {oc_Asker_step kV_Asker_step dc_Asker_step pm_Asker_step cd_Asker_step ct_Asker_step : Value}
    {f_Asker_tick : Addr} {od_Asker_tick an_Asker_tick : Option Addr} {sl_Asker_tick : Array (Option Value)} {oc_Asker_tick kV_Asker_tick dc_Asker_tick pm_Asker_tick cd_Asker_tick ct_Asker_tick : Value}
    {f_Shelf_clear : Addr} {od_Shelf_clear an_Shelf_clear : Option Addr} {sl_Shelf_clear : Array (Option Value)} {oc_Shelf_clear kV_Shelf_clear dc_Shelf_clear pm_Shelf_clear cd_Shelf_clear ct_Shelf_clear : Value}
    {f_Asker_again : Addr} {od_Asker_again an_Asker_again : Option Addr} {sl_Asker_again : Array (Option Value)} {oc_Asker_again kV_Asker_again dc_Asker_again pm_Asker_again cd_Asker_again ct_Asker_again : Value}
    {f_Store_add : Addr} {od_Store_add an_Store_add : Option Addr} {sl_Store_add : Array (Option Value)} {oc_Store_add kV_Store_add dc_Store_add pm_Store_add cd_Store_add ct_Store_add : Value}
    {f_Store_remove : Addr} {od_Store_remove an_Store_remove : Option Addr} {sl_Store_remove : Array (Option Value)} {oc_Store_remove kV_Store_remove dc_Store_remove pm_Store_remove cd_Store_remove ct_Store_remove : Value}
    {f_do : Addr} {od_do an_do : Option Addr} {sl_do : Array (Option Value)} {oc_do kV_do dc_do pm_do cd_do ct_do : Value}
    {f_word_of : Addr} {od_word_of an_word_of : Option Addr} {sl_word_of : Array (Option Value)} {oc_word_of kV_word_of dc_word_of pm_word_of cd_word_of ct_word_of : Value}
    {f_Asker_log : Addr} {od_Asker_log an_Asker_log : Option Addr} {sl_Asker_log : Array (Option Value)} {oc_Asker_log kV_Asker_log dc_Asker_log pm_Asker_log cd_Asker_log ct_Asker_log : Value}
    {f_played : Addr} {od_played an_played : Option Addr} {sl_played : Array (Option Value)} {oc_played kV_played dc_played pm_played cd_played ct_played : Value}
    {f__law_one : Addr} {od__law_one an__law_one : Option Addr} {sl__law_one : Array (Option Value)} {oc__law_one kV__law_one dc__law_one pm__law_one cd__law_one ct__law_one : Value}
    {f__law_refusal : Addr} {od__law_refusal an__law_refusal : Option Addr} {sl__law_refusal : Array (Option Value)} {oc__law_refusal kV__law_refusal dc__law_refusal pm__law_refusal cd__law_refusal ct__law_refusal : Value}
    {f__law_told : Addr} {od__law_told an__law_told : Option Addr} {sl__law_told : Array (Option Value)} {oc__law_told kV__law_told dc__law_told pm__law_told cd__law_told ct__law_told : Value}
    {f_law : Addr} {od_law an_law : Option Addr} {sl_law : Array (Option Value)} {oc_law kV_law dc_law pm_law cd_law ct_law : Value}
    (a_BadText : PySem.W.nsIn K mainGlobals "BadText" = some (some (.ref cT)))
    (ex_BadText : PySem.W.excIn K cT [.type "ValueError", .type "Exception", .type "BaseException", .type "object"] "ValueError.__new__" = true)
    (kp_BadText : PySem.W.keepIn K (.ref cT) = true)
    (sb_BadText : PySem.W.subIn K (.ref cT) (.type "BaseException") = some true)
    (ty_BadText : PySem.W.typeIn K (.ref cT) = some (.type "type"))
    (hg_BadText : PySem.W.findIn K (.ref cT) "__getattribute__" = some (some (.builtin "BaseException.__getattribute__")))
    (hk_BadText : PySem.W.findIn K (.ref cT) "__getattr__" = some none)
    (hd_BadText : PySem.W.hasDictIn K cT = true)
    (ha_BadText : PySem.W.findIn K (.ref cT) "__class__" = some (some (.builtin "object.__class__")))
    (hm_BadText : PySem.W.mroIn K cT (.type "object") = some true)
    (a_BadNumber : PySem.W.nsIn K mainGlobals "BadNumber" = some (some (.ref cN)))
    (ex_BadNumber : PySem.W.excIn K cN [.type "ValueError", .type "Exception", .type "BaseException", .type "object"] "ValueError.__new__" = true)
    (kp_BadNumber : PySem.W.keepIn K (.ref cN) = true)
    (sb_BadNumber : PySem.W.subIn K (.ref cN) (.type "BaseException") = some true)
    (ty_BadNumber : PySem.W.typeIn K (.ref cN) = some (.type "type"))
    (hg_BadNumber : PySem.W.findIn K (.ref cN) "__getattribute__" = some (some (.builtin "BaseException.__getattribute__")))
    (hk_BadNumber : PySem.W.findIn K (.ref cN) "__getattr__" = some none)
    (hd_BadNumber : PySem.W.hasDictIn K cN = true)
    (ha_BadNumber : PySem.W.findIn K (.ref cN) "__class__" = some (some (.builtin "object.__class__")))
    (hm_BadNumber : PySem.W.mroIn K cN (.type "object") = some true)
    (a_BadAsk : PySem.W.nsIn K mainGlobals "BadAsk" = some (some (.ref cA)))
    (ex_BadAsk : PySem.W.excIn K cA [.type "ValueError", .type "Exception", .type "BaseException", .type "object"] "ValueError.__new__" = true)
    (kp_BadAsk : PySem.W.keepIn K (.ref cA) = true)
    (sb_BadAsk : PySem.W.subIn K (.ref cA) (.type "BaseException") = some true)
    (ty_BadAsk : PySem.W.typeIn K (.ref cA) = some (.type "type"))
    (hg_BadAsk : PySem.W.findIn K (.ref cA) "__getattribute__" = some (some (.builtin "BaseException.__getattribute__")))
    (hk_BadAsk : PySem.W.findIn K (.ref cA) "__getattr__" = some none)
    (hd_BadAsk : PySem.W.hasDictIn K cA = true)
    (ha_BadAsk : PySem.W.findIn K (.ref cA) "__class__" = some (some (.builtin "object.__class__")))
    (hm_BadAsk : PySem.W.mroIn K cA (.type "object") = some true)
    (a_AskError : PySem.W.nsIn K mainGlobals "AskError" = some (some (.ref cE)))
    (ex_AskError : PySem.W.excIn K cE [.type "ValueError", .type "Exception", .type "BaseException", .type "object"] "ValueError.__new__" = true)
    (kp_AskError : PySem.W.keepIn K (.ref cE) = true)
    (sb_AskError : PySem.W.subIn K (.ref cE) (.type "BaseException") = some true)
    (ty_AskError : PySem.W.typeIn K (.ref cE) = some (.type "type"))
    (hg_AskError : PySem.W.findIn K (.ref cE) "__getattribute__" = some (some (.builtin "BaseException.__getattribute__")))
    (hk_AskError : PySem.W.findIn K (.ref cE) "__getattr__" = some none)
    (hd_AskError : PySem.W.hasDictIn K cE = true)
    (ha_AskError : PySem.W.findIn K (.ref cE) "__class__" = some (some (.builtin "object.__class__")))
    (hm_AskError : PySem.W.mroIn K cE (.type "object") = some true)
    (hn : PySem.W.specialIn K (.builtin "object.__class__") "__get__" = some (some (.builtin "getset_descriptor.__get__")))
    (ht : PySem.W.takesIn K (.builtin "object.__class__") = some true)
    (mT : PySem.W.subIn K (.ref cT) (.ref cE) = some true)
    (kTT : PySem.W.kitOne K (.ref cT) (.ref cT) = some true)
    (kTN : PySem.W.kitOne K (.ref cT) (.ref cN) = some false)
    (kTA : PySem.W.kitOne K (.ref cT) (.ref cA) = some false)
    (vT : PySem.W.kitOne K (.ref cT) (.type "ValueError") = some true)
    (mN : PySem.W.subIn K (.ref cN) (.ref cE) = some true)
    (kNT : PySem.W.kitOne K (.ref cN) (.ref cT) = some false)
    (kNN : PySem.W.kitOne K (.ref cN) (.ref cN) = some true)
    (kNA : PySem.W.kitOne K (.ref cN) (.ref cA) = some false)
    (vN : PySem.W.kitOne K (.ref cN) (.type "ValueError") = some true)
    (mA : PySem.W.subIn K (.ref cA) (.ref cE) = some true)
    (kAT : PySem.W.kitOne K (.ref cA) (.ref cT) = some false)
    (kAN : PySem.W.kitOne K (.ref cA) (.ref cN) = some false)
    (kAA : PySem.W.kitOne K (.ref cA) (.ref cA) = some true)
    (vA : PySem.W.kitOne K (.ref cA) (.type "ValueError") = some true)
    (sT : PySem.W.subIn K (.ref cT) (.ref cT) = some true)
    (sN : PySem.W.subIn K (.ref cN) (.ref cN) = some true)
    (sA : PySem.W.subIn K (.ref cA) (.ref cA) = some true)
    (z_len : PySem.W.nsIn K mainGlobals "len" = some none)
    (z_ord : PySem.W.nsIn K mainGlobals "ord" = some none)
    (z_all : PySem.W.nsIn K mainGlobals "all" = some none)
    (z_sorted : PySem.W.nsIn K mainGlobals "sorted" = some none)
    (z_list : PySem.W.nsIn K mainGlobals "list" = some none)
    (z_range : PySem.W.nsIn K mainGlobals "range" = some none)
    (z_max : PySem.W.nsIn K mainGlobals "max" = some none)
    (z_str : PySem.W.nsIn K mainGlobals "str" = some none)
    (z_int : PySem.W.nsIn K mainGlobals "int" = some none)
    (z_isinstance : PySem.W.nsIn K mainGlobals "isinstance" = some none)
    (z_ValueError : PySem.W.nsIn K mainGlobals "ValueError" = some none)
    (n_MOST_ROW : PySem.W.nsIn K mainGlobals "MOST_ROW" = some (some (.int 20 t_MOST_ROW)))
    (n_MOST_TYPED : PySem.W.nsIn K mainGlobals "MOST_TYPED" = some (some (.int 12 t_MOST_TYPED)))
    (n_MOST_ANSWER : PySem.W.nsIn K mainGlobals "MOST_ANSWER" = some (some (.int 6 t_MOST_ANSWER)))
    (n_MOST_ROWS : PySem.W.nsIn K mainGlobals "MOST_ROWS" = some (some (.int 12 t_MOST_ROWS)))
    (n_MOST_PAUSE : PySem.W.nsIn K mainGlobals "MOST_PAUSE" = some (some (.int 9 t_MOST_PAUSE)))
    (n_MOST_ASKS : PySem.W.nsIn K mainGlobals "MOST_ASKS" = some (some (.int 3 t_MOST_ASKS)))
    (n_MOST_PATIENCE : PySem.W.nsIn K mainGlobals "MOST_PATIENCE" = some (some (.int 40 t_MOST_PATIENCE)))
    (n_TRIES : PySem.W.nsIn K mainGlobals "TRIES" = some (some (.int 3 t_TRIES)))
    (n_MOST_TICKS : PySem.W.nsIn K mainGlobals "MOST_TICKS" = some (some (.int 100 t_MOST_TICKS)))
    (n_MOST_DELAYS : PySem.W.nsIn K mainGlobals "MOST_DELAYS" = some (some (.int 8 t_MOST_DELAYS)))
    (n_MOST_DELAY : PySem.W.nsIn K mainGlobals "MOST_DELAY" = some (some (.int 30 t_MOST_DELAY)))
    (n_MOST_KEPT : PySem.W.nsIn K mainGlobals "MOST_KEPT" = some (some (.int 6 t_MOST_KEPT)))
    (n_MOST_TERM : PySem.W.nsIn K mainGlobals "MOST_TERM" = some (some (.int 60 t_MOST_TERM)))
    (n_WORDS : PySem.W.nsIn K mainGlobals "WORDS" = some (some (.ref aW)))
    (l_WORDS : K.lookup aW = some ⟨.type "dict", none, .dict #[⟨hW0, .str "put" tW0, .int 2 uW0⟩, ⟨hW1, .str "key" tW1, .int 2 uW1⟩, ⟨hW2, .str "rub" tW2, .int 1 uW2⟩, ⟨hW3, .str "tick" tW3, .int 2 uW3⟩, ⟨hW4, .str "again" tW4, .int 1 uW4⟩, ⟨hW5, .str "add" tW5, .int 2 uW5⟩, ⟨hW6, .str "remove" tW6, .int 2 uW6⟩] nW, #[]⟩)
    (kk_WORDS : PySem.W.KeysLit w.params (#[⟨hW0, .str "put" tW0, .int 2 uW0⟩, ⟨hW1, .str "key" tW1, .int 2 uW1⟩, ⟨hW2, .str "rub" tW2, .int 1 uW2⟩, ⟨hW3, .str "tick" tW3, .int 2 uW3⟩, ⟨hW4, .str "again" tW4, .int 1 uW4⟩, ⟨hW5, .str "add" tW5, .int 2 uW5⟩, ⟨hW6, .str "remove" tW6, .int 2 uW6⟩] : Array DictEntry).toList)
    (lo_WORDS : (aW == sysModules) = false)
    (n_MOST_TICK : PySem.W.nsIn K mainGlobals "MOST_TICK" = some (some (.int 999 t_MOST_TICK)))
    (n_MOST_SIGNS : PySem.W.nsIn K mainGlobals "MOST_SIGNS" = some (some (.int 40 t_MOST_SIGNS)))
    (n_FIGURES : PySem.W.nsIn K mainGlobals "FIGURES" = some (some (.str "0123456789" t_FIGURES)))
    (g_Store : PySem.W.nsIn K mainGlobals "Store" = some (some (.ref cS)))
    (pg_Store : PySem.W.plainGet K cS Str.empty = true)
    (pd_Store : PySem.W.hasDictIn K cS = true)
    (po_Store : PySem.W.plainOver K cS = true)
    (ps_Store : PySem.W.findIn K (.ref cS) "__setattr__" = some (some (.builtin "object.__setattr__")))
    (pm_Store : PySem.W.makesIn K cS = true)
    (pk_Store : PySem.W.keepIn K (.ref cS) = true)
    (f_Store_rows : PySem.W.findIn K (.ref cS) "rows" = some none)
    (g_Asker : PySem.W.nsIn K mainGlobals "Asker" = some (some (.ref cK)))
    (pg_Asker : PySem.W.plainGet K cK Str.empty = true)
    (pd_Asker : PySem.W.hasDictIn K cK = true)
    (po_Asker : PySem.W.plainOver K cK = true)
    (ps_Asker : PySem.W.findIn K (.ref cK) "__setattr__" = some (some (.builtin "object.__setattr__")))
    (pm_Asker : PySem.W.makesIn K cK = true)
    (pk_Asker : PySem.W.keepIn K (.ref cK) = true)
    (f_Asker_store : PySem.W.findIn K (.ref cK) "store" = some none)
    (f_Asker_road : PySem.W.findIn K (.ref cK) "road" = some none)
    (f_Asker_shelf : PySem.W.findIn K (.ref cK) "shelf" = some none)
    (f_Asker_rows_most : PySem.W.findIn K (.ref cK) "rows_most" = some none)
    (f_Asker_pause : PySem.W.findIn K (.ref cK) "pause" = some none)
    (f_Asker_asks_most : PySem.W.findIn K (.ref cK) "asks_most" = some none)
    (f_Asker_patience : PySem.W.findIn K (.ref cK) "patience" = some none)
    (f_Asker_time : PySem.W.findIn K (.ref cK) "time" = some none)
    (f_Asker_now : PySem.W.findIn K (.ref cK) "now" = some none)
    (f_Asker_typed_at : PySem.W.findIn K (.ref cK) "typed_at" = some none)
    (f_Asker_is_due : PySem.W.findIn K (.ref cK) "is_due" = some none)
    (f_Asker_tries : PySem.W.findIn K (.ref cK) "tries" = some none)
    (f_Asker_asked : PySem.W.findIn K (.ref cK) "asked" = some none)
    (f_Asker_flying : PySem.W.findIn K (.ref cK) "flying" = some none)
    (f_Asker_shown : PySem.W.findIn K (.ref cK) "shown" = some none)
    (f_Asker_rows : PySem.W.findIn K (.ref cK) "rows" = some none)
    (g_Road : PySem.W.nsIn K mainGlobals "Road" = some (some (.ref cR)))
    (pg_Road : PySem.W.plainGet K cR Str.empty = true)
    (pd_Road : PySem.W.hasDictIn K cR = true)
    (po_Road : PySem.W.plainOver K cR = true)
    (ps_Road : PySem.W.findIn K (.ref cR) "__setattr__" = some (some (.builtin "object.__setattr__")))
    (pm_Road : PySem.W.makesIn K cR = true)
    (pk_Road : PySem.W.keepIn K (.ref cR) = true)
    (f_Road_delays : PySem.W.findIn K (.ref cR) "delays" = some none)
    (f_Road_sent : PySem.W.findIn K (.ref cR) "sent" = some none)
    (f_Road_under_way : PySem.W.findIn K (.ref cR) "under_way" = some none)
    (g_Shelf : PySem.W.nsIn K mainGlobals "Shelf" = some (some (.ref cH)))
    (pg_Shelf : PySem.W.plainGet K cH Str.empty = true)
    (pd_Shelf : PySem.W.hasDictIn K cH = true)
    (po_Shelf : PySem.W.plainOver K cH = true)
    (ps_Shelf : PySem.W.findIn K (.ref cH) "__setattr__" = some (some (.builtin "object.__setattr__")))
    (pm_Shelf : PySem.W.makesIn K cH = true)
    (pk_Shelf : PySem.W.keepIn K (.ref cH) = true)
    (f_Shelf_most : PySem.W.findIn K (.ref cH) "most" = some none)
    (f_Shelf_term : PySem.W.findIn K (.ref cH) "term" = some none)
    (f_Shelf_kept : PySem.W.findIn K (.ref cH) "kept" = some none)
    (a__law_cell : PySem.W.nsIn K mainGlobals "_law_cell" = some (some (.ref f__law_cell)))
    (l__law_cell : K.lookup f__law_cell = some ⟨oc__law_cell, od__law_cell, .func (PySem.W.fnOf "_law_cell" "_law_cell" (defArgs s__law_cell) (defBody s__law_cell) (defScope s__law_cell) .none kV__law_cell dc__law_cell pm__law_cell an__law_cell cd__law_cell ct__law_cell), sl__law_cell⟩)
    (c__law_cell : PySem.W.codeIn K cd__law_cell "_law_cell" = true)
    (k__law_cell : PySem.W.keepIn K (.ref f__law_cell) = true)
    (a__law_mix : PySem.W.nsIn K mainGlobals "_law_mix" = some (some (.ref f__law_mix)))
    (l__law_mix : K.lookup f__law_mix = some ⟨oc__law_mix, od__law_mix, .func (PySem.W.fnOf "_law_mix" "_law_mix" (defArgs s__law_mix) (defBody s__law_mix) (defScope s__law_mix) .none kV__law_mix dc__law_mix pm__law_mix an__law_mix cd__law_mix ct__law_mix), sl__law_mix⟩)
    (c__law_mix : PySem.W.codeIn K cd__law_mix "_law_mix" = true)
    (k__law_mix : PySem.W.keepIn K (.ref f__law_mix) = true)
    (a__law_draw : PySem.W.nsIn K mainGlobals "_law_draw" = some (some (.ref f__law_draw)))
    (l__law_draw : K.lookup f__law_draw = some ⟨oc__law_draw, od__law_draw, .func (PySem.W.fnOf "_law_draw" "_law_draw" (defArgs s__law_draw) (defBody s__law_draw) (defScope s__law_draw) .none kV__law_draw dc__law_draw pm__law_draw an__law_draw cd__law_draw ct__law_draw), sl__law_draw⟩)
    (c__law_draw : PySem.W.codeIn K cd__law_draw "_law_draw" = true)
    (k__law_draw : PySem.W.keepIn K (.ref f__law_draw) = true)
    (a__law_pick : PySem.W.nsIn K mainGlobals "_law_pick" = some (some (.ref f__law_pick)))
    (l__law_pick : K.lookup f__law_pick = some ⟨oc__law_pick, od__law_pick, .func (PySem.W.fnOf "_law_pick" "_law_pick" (defArgs s__law_pick) (defBody s__law_pick) (defScope s__law_pick) .none kV__law_pick dc__law_pick pm__law_pick an__law_pick cd__law_pick ct__law_pick), sl__law_pick⟩)
    (c__law_pick : PySem.W.codeIn K cd__law_pick "_law_pick" = true)
    (k__law_pick : PySem.W.keepIn K (.ref f__law_pick) = true)
    (a__law_query : PySem.W.nsIn K mainGlobals "_law_query" = some (some (.ref f__law_query)))
    (l__law_query : K.lookup f__law_query = some ⟨oc__law_query, od__law_query, .func (PySem.W.fnOf "_law_query" "_law_query" (defArgs s__law_query) (defBody s__law_query) (defScope s__law_query) .none kV__law_query dc__law_query pm__law_query an__law_query cd__law_query ct__law_query), sl__law_query⟩)
    (c__law_query : PySem.W.codeIn K cd__law_query "_law_query" = true)
    (k__law_query : PySem.W.keepIn K (.ref f__law_query) = true)
    (a__law_row : PySem.W.nsIn K mainGlobals "_law_row" = some (some (.ref f__law_row)))
    (l__law_row : K.lookup f__law_row = some ⟨oc__law_row, od__law_row, .func (PySem.W.fnOf "_law_row" "_law_row" (defArgs s__law_row) (defBody s__law_row) (defScope s__law_row) .none kV__law_row dc__law_row pm__law_row an__law_row cd__law_row ct__law_row), sl__law_row⟩)
    (c__law_row : PySem.W.codeIn K cd__law_row "_law_row" = true)
    (k__law_row : PySem.W.keepIn K (.ref f__law_row) = true)
    (a__law_deed : PySem.W.nsIn K mainGlobals "_law_deed" = some (some (.ref f__law_deed)))
    (l__law_deed : K.lookup f__law_deed = some ⟨oc__law_deed, od__law_deed, .func (PySem.W.fnOf "_law_deed" "_law_deed" (defArgs s__law_deed) (defBody s__law_deed) (defScope s__law_deed) .none kV__law_deed dc__law_deed pm__law_deed an__law_deed cd__law_deed ct__law_deed), sl__law_deed⟩)
    (c__law_deed : PySem.W.codeIn K cd__law_deed "_law_deed" = true)
    (k__law_deed : PySem.W.keepIn K (.ref f__law_deed) = true)
    (a__law_text : PySem.W.nsIn K mainGlobals "_law_text" = some (some (.ref f__law_text)))
    (l__law_text : K.lookup f__law_text = some ⟨oc__law_text, od__law_text, .func (PySem.W.fnOf "_law_text" "_law_text" (defArgs s__law_text) (defBody s__law_text) (defScope s__law_text) .none kV__law_text dc__law_text pm__law_text an__law_text cd__law_text ct__law_text), sl__law_text⟩)
    (c__law_text : PySem.W.codeIn K cd__law_text "_law_text" = true)
    (k__law_text : PySem.W.keepIn K (.ref f__law_text) = true)
    (a_look_text : PySem.W.nsIn K mainGlobals "look_text" = some (some (.ref f_look_text)))
    (l_look_text : K.lookup f_look_text = some ⟨oc_look_text, od_look_text, .func (PySem.W.fnOf "look_text" "look_text" (defArgs s_look_text) (defBody s_look_text) (defScope s_look_text) .none kV_look_text dc_look_text pm_look_text an_look_text cd_look_text ct_look_text), sl_look_text⟩)
    (c_look_text : PySem.W.codeIn K cd_look_text "look_text" = true)
    (k_look_text : PySem.W.keepIn K (.ref f_look_text) = true)
    (a_deed_in : PySem.W.nsIn K mainGlobals "deed_in" = some (some (.ref f_deed_in)))
    (l_deed_in : K.lookup f_deed_in = some ⟨oc_deed_in, od_deed_in, .func (PySem.W.fnOf "deed_in" "deed_in" (defArgs s_deed_in) (defBody s_deed_in) (defScope s_deed_in) .none kV_deed_in dc_deed_in pm_deed_in an_deed_in cd_deed_in ct_deed_in), sl_deed_in⟩)
    (c_deed_in : PySem.W.codeIn K cd_deed_in "deed_in" = true)
    (k_deed_in : PySem.W.keepIn K (.ref f_deed_in) = true)
    (a_row_of : PySem.W.nsIn K mainGlobals "row_of" = some (some (.ref f_row_of)))
    (l_row_of : K.lookup f_row_of = some ⟨oc_row_of, od_row_of, .func (PySem.W.fnOf "row_of" "row_of" (defArgs s_row_of) (defBody s_row_of) (defScope s_row_of) .none kV_row_of dc_row_of pm_row_of an_row_of cd_row_of ct_row_of), sl_row_of⟩)
    (c_row_of : PySem.W.codeIn K cd_row_of "row_of" = true)
    (k_row_of : PySem.W.keepIn K (.ref f_row_of) = true)
    (a_read_diary : PySem.W.nsIn K mainGlobals "read_diary" = some (some (.ref f_read_diary)))
    (l_read_diary : K.lookup f_read_diary = some ⟨oc_read_diary, od_read_diary, .func (PySem.W.fnOf "read_diary" "read_diary" (defArgs s_read_diary) (defBody s_read_diary) (defScope s_read_diary) .none kV_read_diary dc_read_diary pm_read_diary an_read_diary cd_read_diary ct_read_diary), sl_read_diary⟩)
    (c_read_diary : PySem.W.codeIn K cd_read_diary "read_diary" = true)
    (k_read_diary : PySem.W.keepIn K (.ref f_read_diary) = true)
    (a_look_deed : PySem.W.nsIn K mainGlobals "look_deed" = some (some (.ref f_look_deed)))
    (l_look_deed : K.lookup f_look_deed = some ⟨oc_look_deed, od_look_deed, .func (PySem.W.fnOf "look_deed" "look_deed" (defArgs s_look_deed) (defBody s_look_deed) (defScope s_look_deed) .none kV_look_deed dc_look_deed pm_look_deed an_look_deed cd_look_deed ct_look_deed), sl_look_deed⟩)
    (c_look_deed : PySem.W.codeIn K cd_look_deed "look_deed" = true)
    (k_look_deed : PySem.W.keepIn K (.ref f_look_deed) = true)
    (a_look_deeds : PySem.W.nsIn K mainGlobals "look_deeds" = some (some (.ref f_look_deeds)))
    (l_look_deeds : K.lookup f_look_deeds = some ⟨oc_look_deeds, od_look_deeds, .func (PySem.W.fnOf "look_deeds" "look_deeds" (defArgs s_look_deeds) (defBody s_look_deeds) (defScope s_look_deeds) .none kV_look_deeds dc_look_deeds pm_look_deeds an_look_deeds cd_look_deeds ct_look_deeds), sl_look_deeds⟩)
    (c_look_deeds : PySem.W.codeIn K cd_look_deeds "look_deeds" = true)
    (k_look_deeds : PySem.W.keepIn K (.ref f_look_deeds) = true)
    (a_diary_text : PySem.W.nsIn K mainGlobals "diary_text" = some (some (.ref f_diary_text)))
    (l_diary_text : K.lookup f_diary_text = some ⟨oc_diary_text, od_diary_text, .func (PySem.W.fnOf "diary_text" "diary_text" (defArgs s_diary_text) (defBody s_diary_text) (defScope s_diary_text) .none kV_diary_text dc_diary_text pm_diary_text an_diary_text cd_diary_text ct_diary_text), sl_diary_text⟩)
    (c_diary_text : PySem.W.codeIn K cd_diary_text "diary_text" = true)
    (k_diary_text : PySem.W.keepIn K (.ref f_diary_text) = true)
    (a_Store___init__ : PySem.W.findIn K (.ref cS) "__init__" = some (some (.ref f_Store___init__)))
    (i_Store___init__ : PySem.W.isFn K (.ref f_Store___init__) = true)
    (l_Store___init__ : K.lookup f_Store___init__ = some ⟨oc_Store___init__, od_Store___init__, .func (PySem.W.fnOf "__init__" "Store.__init__" (defArgs s_Store___init__) (defBody s_Store___init__) (defScope s_Store___init__) .none kV_Store___init__ dc_Store___init__ pm_Store___init__ an_Store___init__ cd_Store___init__ ct_Store___init__), sl_Store___init__⟩)
    (c_Store___init__ : PySem.W.codeIn K cd_Store___init__ "Store.__init__" = true)
    (k_Store___init__ : PySem.W.keepIn K (.ref f_Store___init__) = true)
    (a_Shelf___init__ : PySem.W.findIn K (.ref cH) "__init__" = some (some (.ref f_Shelf___init__)))
    (i_Shelf___init__ : PySem.W.isFn K (.ref f_Shelf___init__) = true)
    (l_Shelf___init__ : K.lookup f_Shelf___init__ = some ⟨oc_Shelf___init__, od_Shelf___init__, .func (PySem.W.fnOf "__init__" "Shelf.__init__" (defArgs s_Shelf___init__) (defBody s_Shelf___init__) (defScope s_Shelf___init__) .none kV_Shelf___init__ dc_Shelf___init__ pm_Shelf___init__ an_Shelf___init__ cd_Shelf___init__ ct_Shelf___init__), sl_Shelf___init__⟩)
    (c_Shelf___init__ : PySem.W.codeIn K cd_Shelf___init__ "Shelf.__init__" = true)
    (k_Shelf___init__ : PySem.W.keepIn K (.ref f_Shelf___init__) = true)
    (a_Road___init__ : PySem.W.findIn K (.ref cR) "__init__" = some (some (.ref f_Road___init__)))
    (i_Road___init__ : PySem.W.isFn K (.ref f_Road___init__) = true)
    (l_Road___init__ : K.lookup f_Road___init__ = some ⟨oc_Road___init__, od_Road___init__, .func (PySem.W.fnOf "__init__" "Road.__init__" (defArgs s_Road___init__) (defBody s_Road___init__) (defScope s_Road___init__) .none kV_Road___init__ dc_Road___init__ pm_Road___init__ an_Road___init__ cd_Road___init__ ct_Road___init__), sl_Road___init__⟩)
    (c_Road___init__ : PySem.W.codeIn K cd_Road___init__ "Road.__init__" = true)
    (k_Road___init__ : PySem.W.keepIn K (.ref f_Road___init__) = true)
    (a_look_many : PySem.W.nsIn K mainGlobals "look_many" = some (some (.ref f_look_many)))
    (l_look_many : K.lookup f_look_many = some ⟨oc_look_many, od_look_many, .func (PySem.W.fnOf "look_many" "look_many" (defArgs s_look_many) (defBody s_look_many) (defScope s_look_many) .none kV_look_many dc_look_many pm_look_many an_look_many cd_look_many ct_look_many), sl_look_many⟩)
    (c_look_many : PySem.W.codeIn K cd_look_many "look_many" = true)
    (k_look_many : PySem.W.keepIn K (.ref f_look_many) = true)
    (a_Asker___init__ : PySem.W.findIn K (.ref cK) "__init__" = some (some (.ref f_Asker___init__)))
    (i_Asker___init__ : PySem.W.isFn K (.ref f_Asker___init__) = true)
    (l_Asker___init__ : K.lookup f_Asker___init__ = some ⟨oc_Asker___init__, od_Asker___init__, .func (PySem.W.fnOf "__init__" "Asker.__init__" (defArgs s_Asker___init__) (defBody s_Asker___init__) (defScope s_Asker___init__) .none kV_Asker___init__ dc_Asker___init__ pm_Asker___init__ an_Asker___init__ cd_Asker___init__ ct_Asker___init__), sl_Asker___init__⟩)
    (c_Asker___init__ : PySem.W.codeIn K cd_Asker___init__ "Asker.__init__" = true)
    (k_Asker___init__ : PySem.W.keepIn K (.ref f_Asker___init__) = true)
    (a_folded : PySem.W.nsIn K mainGlobals "folded" = some (some (.ref f_folded)))
    (l_folded : K.lookup f_folded = some ⟨oc_folded, od_folded, .func (PySem.W.fnOf "folded" "folded" (defArgs s_folded) (defBody s_folded) (defScope s_folded) .none kV_folded dc_folded pm_folded an_folded cd_folded ct_folded), sl_folded⟩)
    (c_folded : PySem.W.codeIn K cd_folded "folded" = true)
    (k_folded : PySem.W.keepIn K (.ref f_folded) = true)
    (a_Asker_is_fresh : PySem.W.findIn K (.ref cK) "is_fresh" = some (some (.ref f_Asker_is_fresh)))
    (i_Asker_is_fresh : PySem.W.isFn K (.ref f_Asker_is_fresh) = true)
    (l_Asker_is_fresh : K.lookup f_Asker_is_fresh = some ⟨oc_Asker_is_fresh, od_Asker_is_fresh, .func (PySem.W.fnOf "is_fresh" "Asker.is_fresh" (defArgs s_Asker_is_fresh) (defBody s_Asker_is_fresh) (defScope s_Asker_is_fresh) .none kV_Asker_is_fresh dc_Asker_is_fresh pm_Asker_is_fresh an_Asker_is_fresh cd_Asker_is_fresh ct_Asker_is_fresh), sl_Asker_is_fresh⟩)
    (c_Asker_is_fresh : PySem.W.codeIn K cd_Asker_is_fresh "Asker.is_fresh" = true)
    (k_Asker_is_fresh : PySem.W.keepIn K (.ref f_Asker_is_fresh) = true)
    (a_Asker_view : PySem.W.findIn K (.ref cK) "view" = some (some (.ref f_Asker_view)))
    (i_Asker_view : PySem.W.isFn K (.ref f_Asker_view) = true)
    (l_Asker_view : K.lookup f_Asker_view = some ⟨oc_Asker_view, od_Asker_view, .func (PySem.W.fnOf "view" "Asker.view" (defArgs s_Asker_view) (defBody s_Asker_view) (defScope s_Asker_view) .none kV_Asker_view dc_Asker_view pm_Asker_view an_Asker_view cd_Asker_view ct_Asker_view), sl_Asker_view⟩)
    (c_Asker_view : PySem.W.codeIn K cd_Asker_view "Asker.view" = true)
    (k_Asker_view : PySem.W.keepIn K (.ref f_Asker_view) = true)
    (a_Asker_drop_other : PySem.W.findIn K (.ref cK) "drop_other" = some (some (.ref f_Asker_drop_other)))
    (i_Asker_drop_other : PySem.W.isFn K (.ref f_Asker_drop_other) = true)
    (l_Asker_drop_other : K.lookup f_Asker_drop_other = some ⟨oc_Asker_drop_other, od_Asker_drop_other, .func (PySem.W.fnOf "drop_other" "Asker.drop_other" (defArgs s_Asker_drop_other) (defBody s_Asker_drop_other) (defScope s_Asker_drop_other) .none kV_Asker_drop_other dc_Asker_drop_other pm_Asker_drop_other an_Asker_drop_other cd_Asker_drop_other ct_Asker_drop_other), sl_Asker_drop_other⟩)
    (c_Asker_drop_other : PySem.W.codeIn K cd_Asker_drop_other "Asker.drop_other" = true)
    (k_Asker_drop_other : PySem.W.keepIn K (.ref f_Asker_drop_other) = true)
    (a_Shelf_source : PySem.W.findIn K (.ref cH) "source" = some (some (.ref f_Shelf_source)))
    (i_Shelf_source : PySem.W.isFn K (.ref f_Shelf_source) = true)
    (l_Shelf_source : K.lookup f_Shelf_source = some ⟨oc_Shelf_source, od_Shelf_source, .func (PySem.W.fnOf "source" "Shelf.source" (defArgs s_Shelf_source) (defBody s_Shelf_source) (defScope s_Shelf_source) .none kV_Shelf_source dc_Shelf_source pm_Shelf_source an_Shelf_source cd_Shelf_source ct_Shelf_source), sl_Shelf_source⟩)
    (c_Shelf_source : PySem.W.codeIn K cd_Shelf_source "Shelf.source" = true)
    (k_Shelf_source : PySem.W.keepIn K (.ref f_Shelf_source) = true)
    (a_rank : PySem.W.nsIn K mainGlobals "rank" = some (some (.ref f_rank)))
    (l_rank : K.lookup f_rank = some ⟨oc_rank, od_rank, .func (PySem.W.fnOf "rank" "rank" (defArgs s_rank) (defBody s_rank) (defScope s_rank) .none kV_rank dc_rank pm_rank an_rank cd_rank ct_rank), sl_rank⟩)
    (c_rank : PySem.W.codeIn K cd_rank "rank" = true)
    (k_rank : PySem.W.keepIn K (.ref f_rank) = true)
    (a_best : PySem.W.nsIn K mainGlobals "best" = some (some (.ref f_best)))
    (l_best : K.lookup f_best = some ⟨oc_best, od_best, .func (PySem.W.fnOf "best" "best" (defArgs s_best) (defBody s_best) (defScope s_best) .none kV_best dc_best pm_best an_best cd_best ct_best), sl_best⟩)
    (c_best : PySem.W.codeIn K cd_best "best" = true)
    (k_best : PySem.W.keepIn K (.ref f_best) = true)
    (a_Shelf_get : PySem.W.findIn K (.ref cH) "get" = some (some (.ref f_Shelf_get)))
    (i_Shelf_get : PySem.W.isFn K (.ref f_Shelf_get) = true)
    (l_Shelf_get : K.lookup f_Shelf_get = some ⟨oc_Shelf_get, od_Shelf_get, .func (PySem.W.fnOf "get" "Shelf.get" (defArgs s_Shelf_get) (defBody s_Shelf_get) (defScope s_Shelf_get) .none kV_Shelf_get dc_Shelf_get pm_Shelf_get an_Shelf_get cd_Shelf_get ct_Shelf_get), sl_Shelf_get⟩)
    (c_Shelf_get : PySem.W.codeIn K cd_Shelf_get "Shelf.get" = true)
    (k_Shelf_get : PySem.W.keepIn K (.ref f_Shelf_get) = true)
    (a_Asker_show : PySem.W.findIn K (.ref cK) "show" = some (some (.ref f_Asker_show)))
    (i_Asker_show : PySem.W.isFn K (.ref f_Asker_show) = true)
    (l_Asker_show : K.lookup f_Asker_show = some ⟨oc_Asker_show, od_Asker_show, .func (PySem.W.fnOf "show" "Asker.show" (defArgs s_Asker_show) (defBody s_Asker_show) (defScope s_Asker_show) .none kV_Asker_show dc_Asker_show pm_Asker_show an_Asker_show cd_Asker_show ct_Asker_show), sl_Asker_show⟩)
    (c_Asker_show : PySem.W.codeIn K cd_Asker_show "Asker.show" = true)
    (k_Asker_show : PySem.W.keepIn K (.ref f_Asker_show) = true)
    (a_Asker_look_near : PySem.W.findIn K (.ref cK) "look_near" = some (some (.ref f_Asker_look_near)))
    (i_Asker_look_near : PySem.W.isFn K (.ref f_Asker_look_near) = true)
    (l_Asker_look_near : K.lookup f_Asker_look_near = some ⟨oc_Asker_look_near, od_Asker_look_near, .func (PySem.W.fnOf "look_near" "Asker.look_near" (defArgs s_Asker_look_near) (defBody s_Asker_look_near) (defScope s_Asker_look_near) .none kV_Asker_look_near dc_Asker_look_near pm_Asker_look_near an_Asker_look_near cd_Asker_look_near ct_Asker_look_near), sl_Asker_look_near⟩)
    (c_Asker_look_near : PySem.W.codeIn K cd_Asker_look_near "Asker.look_near" = true)
    (k_Asker_look_near : PySem.W.keepIn K (.ref f_Asker_look_near) = true)
    (a_Road_send : PySem.W.findIn K (.ref cR) "send" = some (some (.ref f_Road_send)))
    (i_Road_send : PySem.W.isFn K (.ref f_Road_send) = true)
    (l_Road_send : K.lookup f_Road_send = some ⟨oc_Road_send, od_Road_send, .func (PySem.W.fnOf "send" "Road.send" (defArgs s_Road_send) (defBody s_Road_send) (defScope s_Road_send) .none kV_Road_send dc_Road_send pm_Road_send an_Road_send cd_Road_send ct_Road_send), sl_Road_send⟩)
    (c_Road_send : PySem.W.codeIn K cd_Road_send "Road.send" = true)
    (k_Road_send : PySem.W.keepIn K (.ref f_Road_send) = true)
    (a_Asker_ask_if_due : PySem.W.findIn K (.ref cK) "ask_if_due" = some (some (.ref f_Asker_ask_if_due)))
    (i_Asker_ask_if_due : PySem.W.isFn K (.ref f_Asker_ask_if_due) = true)
    (l_Asker_ask_if_due : K.lookup f_Asker_ask_if_due = some ⟨oc_Asker_ask_if_due, od_Asker_ask_if_due, .func (PySem.W.fnOf "ask_if_due" "Asker.ask_if_due" (defArgs s_Asker_ask_if_due) (defBody s_Asker_ask_if_due) (defScope s_Asker_ask_if_due) .none kV_Asker_ask_if_due dc_Asker_ask_if_due pm_Asker_ask_if_due an_Asker_ask_if_due cd_Asker_ask_if_due ct_Asker_ask_if_due), sl_Asker_ask_if_due⟩)
    (c_Asker_ask_if_due : PySem.W.codeIn K cd_Asker_ask_if_due "Asker.ask_if_due" = true)
    (k_Asker_ask_if_due : PySem.W.keepIn K (.ref f_Asker_ask_if_due) = true)
    (a_Asker_put : PySem.W.findIn K (.ref cK) "put" = some (some (.ref f_Asker_put)))
    (i_Asker_put : PySem.W.isFn K (.ref f_Asker_put) = true)
    (l_Asker_put : K.lookup f_Asker_put = some ⟨oc_Asker_put, od_Asker_put, .func (PySem.W.fnOf "put" "Asker.put" (defArgs s_Asker_put) (defBody s_Asker_put) (defScope s_Asker_put) .none kV_Asker_put dc_Asker_put pm_Asker_put an_Asker_put cd_Asker_put ct_Asker_put), sl_Asker_put⟩)
    (c_Asker_put : PySem.W.codeIn K cd_Asker_put "Asker.put" = true)
    (k_Asker_put : PySem.W.keepIn K (.ref f_Asker_put) = true)
    (a_Asker_key : PySem.W.findIn K (.ref cK) "key" = some (some (.ref f_Asker_key)))
    (i_Asker_key : PySem.W.isFn K (.ref f_Asker_key) = true)
    (l_Asker_key : K.lookup f_Asker_key = some ⟨oc_Asker_key, od_Asker_key, .func (PySem.W.fnOf "key" "Asker.key" (defArgs s_Asker_key) (defBody s_Asker_key) (defScope s_Asker_key) .none kV_Asker_key dc_Asker_key pm_Asker_key an_Asker_key cd_Asker_key ct_Asker_key), sl_Asker_key⟩)
    (c_Asker_key : PySem.W.codeIn K cd_Asker_key "Asker.key" = true)
    (k_Asker_key : PySem.W.keepIn K (.ref f_Asker_key) = true)
    (a_Asker_rub : PySem.W.findIn K (.ref cK) "rub" = some (some (.ref f_Asker_rub)))
    (i_Asker_rub : PySem.W.isFn K (.ref f_Asker_rub) = true)
    (l_Asker_rub : K.lookup f_Asker_rub = some ⟨oc_Asker_rub, od_Asker_rub, .func (PySem.W.fnOf "rub" "Asker.rub" (defArgs s_Asker_rub) (defBody s_Asker_rub) (defScope s_Asker_rub) .none kV_Asker_rub dc_Asker_rub pm_Asker_rub an_Asker_rub cd_Asker_rub ct_Asker_rub), sl_Asker_rub⟩)
    (c_Asker_rub : PySem.W.codeIn K cd_Asker_rub "Asker.rub" = true)
    (k_Asker_rub : PySem.W.keepIn K (.ref f_Asker_rub) = true)
    (a_Road_due : PySem.W.findIn K (.ref cR) "due" = some (some (.ref f_Road_due)))
    (i_Road_due : PySem.W.isFn K (.ref f_Road_due) = true)
    (l_Road_due : K.lookup f_Road_due = some ⟨oc_Road_due, od_Road_due, .func (PySem.W.fnOf "due" "Road.due" (defArgs s_Road_due) (defBody s_Road_due) (defScope s_Road_due) .none kV_Road_due dc_Road_due pm_Road_due an_Road_due cd_Road_due ct_Road_due), sl_Road_due⟩)
    (c_Road_due : PySem.W.codeIn K cd_Road_due "Road.due" = true)
    (k_Road_due : PySem.W.keepIn K (.ref f_Road_due) = true)
    (a_Store_answer : PySem.W.findIn K (.ref cS) "answer" = some (some (.ref f_Store_answer)))
    (i_Store_answer : PySem.W.isFn K (.ref f_Store_answer) = true)
    (l_Store_answer : K.lookup f_Store_answer = some ⟨oc_Store_answer, od_Store_answer, .func (PySem.W.fnOf "answer" "Store.answer" (defArgs s_Store_answer) (defBody s_Store_answer) (defScope s_Store_answer) .none kV_Store_answer dc_Store_answer pm_Store_answer an_Store_answer cd_Store_answer ct_Store_answer), sl_Store_answer⟩)
    (c_Store_answer : PySem.W.codeIn K cd_Store_answer "Store.answer" = true)
    (k_Store_answer : PySem.W.keepIn K (.ref f_Store_answer) = true)
    (a_Shelf_put : PySem.W.findIn K (.ref cH) "put" = some (some (.ref f_Shelf_put)))
    (i_Shelf_put : PySem.W.isFn K (.ref f_Shelf_put) = true)
    (l_Shelf_put : K.lookup f_Shelf_put = some ⟨oc_Shelf_put, od_Shelf_put, .func (PySem.W.fnOf "put" "Shelf.put" (defArgs s_Shelf_put) (defBody s_Shelf_put) (defScope s_Shelf_put) .none kV_Shelf_put dc_Shelf_put pm_Shelf_put an_Shelf_put cd_Shelf_put ct_Shelf_put), sl_Shelf_put⟩)
    (c_Shelf_put : PySem.W.codeIn K cd_Shelf_put "Shelf.put" = true)
    (k_Shelf_put : PySem.W.keepIn K (.ref f_Shelf_put) = true)
    (a_Asker_try_again : PySem.W.findIn K (.ref cK) "try_again" = some (some (.ref f_Asker_try_again)))
    (i_Asker_try_again : PySem.W.isFn K (.ref f_Asker_try_again) = true)
    (l_Asker_try_again : K.lookup f_Asker_try_again = some ⟨oc_Asker_try_again, od_Asker_try_again, .func (PySem.W.fnOf "try_again" "Asker.try_again" (defArgs s_Asker_try_again) (defBody s_Asker_try_again) (defScope s_Asker_try_again) .none kV_Asker_try_again dc_Asker_try_again pm_Asker_try_again an_Asker_try_again cd_Asker_try_again ct_Asker_try_again), sl_Asker_try_again⟩)
    (c_Asker_try_again : PySem.W.codeIn K cd_Asker_try_again "Asker.try_again" = true)
    (k_Asker_try_again : PySem.W.keepIn K (.ref f_Asker_try_again) = true)
    (a_Asker_step : PySem.W.findIn K (.ref cK) "step" = some (some (.ref f_Asker_step)))
    (i_Asker_step : PySem.W.isFn K (.ref f_Asker_step) = true)
    (l_Asker_step : K.lookup f_Asker_step = some ⟨oc_Asker_step, od_Asker_step, .func (PySem.W.fnOf "step" "Asker.step" (defArgs s_Asker_step) (defBody s_Asker_step) (defScope s_Asker_step) .none kV_Asker_step dc_Asker_step pm_Asker_step an_Asker_step cd_Asker_step ct_Asker_step), sl_Asker_step⟩)
    (c_Asker_step : PySem.W.codeIn K cd_Asker_step "Asker.step" = true)
    (k_Asker_step : PySem.W.keepIn K (.ref f_Asker_step) = true)
    (a_Asker_tick : PySem.W.findIn K (.ref cK) "tick" = some (some (.ref f_Asker_tick)))
    (i_Asker_tick : PySem.W.isFn K (.ref f_Asker_tick) = true)
    (l_Asker_tick : K.lookup f_Asker_tick = some ⟨oc_Asker_tick, od_Asker_tick, .func (PySem.W.fnOf "tick" "Asker.tick" (defArgs s_Asker_tick) (defBody s_Asker_tick) (defScope s_Asker_tick) .none kV_Asker_tick dc_Asker_tick pm_Asker_tick an_Asker_tick cd_Asker_tick ct_Asker_tick), sl_Asker_tick⟩)
    (c_Asker_tick : PySem.W.codeIn K cd_Asker_tick "Asker.tick" = true)
    (k_Asker_tick : PySem.W.keepIn K (.ref f_Asker_tick) = true)
    (a_Shelf_clear : PySem.W.findIn K (.ref cH) "clear" = some (some (.ref f_Shelf_clear)))
    (i_Shelf_clear : PySem.W.isFn K (.ref f_Shelf_clear) = true)
    (l_Shelf_clear : K.lookup f_Shelf_clear = some ⟨oc_Shelf_clear, od_Shelf_clear, .func (PySem.W.fnOf "clear" "Shelf.clear" (defArgs s_Shelf_clear) (defBody s_Shelf_clear) (defScope s_Shelf_clear) .none kV_Shelf_clear dc_Shelf_clear pm_Shelf_clear an_Shelf_clear cd_Shelf_clear ct_Shelf_clear), sl_Shelf_clear⟩)
    (c_Shelf_clear : PySem.W.codeIn K cd_Shelf_clear "Shelf.clear" = true)
    (k_Shelf_clear : PySem.W.keepIn K (.ref f_Shelf_clear) = true)
    (a_Asker_again : PySem.W.findIn K (.ref cK) "again" = some (some (.ref f_Asker_again)))
    (i_Asker_again : PySem.W.isFn K (.ref f_Asker_again) = true)
    (l_Asker_again : K.lookup f_Asker_again = some ⟨oc_Asker_again, od_Asker_again, .func (PySem.W.fnOf "again" "Asker.again" (defArgs s_Asker_again) (defBody s_Asker_again) (defScope s_Asker_again) .none kV_Asker_again dc_Asker_again pm_Asker_again an_Asker_again cd_Asker_again ct_Asker_again), sl_Asker_again⟩)
    (c_Asker_again : PySem.W.codeIn K cd_Asker_again "Asker.again" = true)
    (k_Asker_again : PySem.W.keepIn K (.ref f_Asker_again) = true)
    (a_Store_add : PySem.W.findIn K (.ref cS) "add" = some (some (.ref f_Store_add)))
    (i_Store_add : PySem.W.isFn K (.ref f_Store_add) = true)
    (l_Store_add : K.lookup f_Store_add = some ⟨oc_Store_add, od_Store_add, .func (PySem.W.fnOf "add" "Store.add" (defArgs s_Store_add) (defBody s_Store_add) (defScope s_Store_add) .none kV_Store_add dc_Store_add pm_Store_add an_Store_add cd_Store_add ct_Store_add), sl_Store_add⟩)
    (c_Store_add : PySem.W.codeIn K cd_Store_add "Store.add" = true)
    (k_Store_add : PySem.W.keepIn K (.ref f_Store_add) = true)
    (a_Store_remove : PySem.W.findIn K (.ref cS) "remove" = some (some (.ref f_Store_remove)))
    (i_Store_remove : PySem.W.isFn K (.ref f_Store_remove) = true)
    (l_Store_remove : K.lookup f_Store_remove = some ⟨oc_Store_remove, od_Store_remove, .func (PySem.W.fnOf "remove" "Store.remove" (defArgs s_Store_remove) (defBody s_Store_remove) (defScope s_Store_remove) .none kV_Store_remove dc_Store_remove pm_Store_remove an_Store_remove cd_Store_remove ct_Store_remove), sl_Store_remove⟩)
    (c_Store_remove : PySem.W.codeIn K cd_Store_remove "Store.remove" = true)
    (k_Store_remove : PySem.W.keepIn K (.ref f_Store_remove) = true)
    (a_do : PySem.W.nsIn K mainGlobals "do" = some (some (.ref f_do)))
    (l_do : K.lookup f_do = some ⟨oc_do, od_do, .func (PySem.W.fnOf "do" "do" (defArgs s_do) (defBody s_do) (defScope s_do) .none kV_do dc_do pm_do an_do cd_do ct_do), sl_do⟩)
    (c_do : PySem.W.codeIn K cd_do "do" = true)
    (k_do : PySem.W.keepIn K (.ref f_do) = true)
    (a_word_of : PySem.W.nsIn K mainGlobals "word_of" = some (some (.ref f_word_of)))
    (l_word_of : K.lookup f_word_of = some ⟨oc_word_of, od_word_of, .func (PySem.W.fnOf "word_of" "word_of" (defArgs s_word_of) (defBody s_word_of) (defScope s_word_of) .none kV_word_of dc_word_of pm_word_of an_word_of cd_word_of ct_word_of), sl_word_of⟩)
    (c_word_of : PySem.W.codeIn K cd_word_of "word_of" = true)
    (k_word_of : PySem.W.keepIn K (.ref f_word_of) = true)
    (a_Asker_log : PySem.W.findIn K (.ref cK) "log" = some (some (.ref f_Asker_log)))
    (i_Asker_log : PySem.W.isFn K (.ref f_Asker_log) = true)
    (l_Asker_log : K.lookup f_Asker_log = some ⟨oc_Asker_log, od_Asker_log, .func (PySem.W.fnOf "log" "Asker.log" (defArgs s_Asker_log) (defBody s_Asker_log) (defScope s_Asker_log) .none kV_Asker_log dc_Asker_log pm_Asker_log an_Asker_log cd_Asker_log ct_Asker_log), sl_Asker_log⟩)
    (c_Asker_log : PySem.W.codeIn K cd_Asker_log "Asker.log" = true)
    (k_Asker_log : PySem.W.keepIn K (.ref f_Asker_log) = true)
    (a_played : PySem.W.nsIn K mainGlobals "played" = some (some (.ref f_played)))
    (l_played : K.lookup f_played = some ⟨oc_played, od_played, .func (PySem.W.fnOf "played" "played" (defArgs s_played) (defBody s_played) (defScope s_played) .none kV_played dc_played pm_played an_played cd_played ct_played), sl_played⟩)
    (c_played : PySem.W.codeIn K cd_played "played" = true)
    (k_played : PySem.W.keepIn K (.ref f_played) = true)
    (a__law_one : PySem.W.nsIn K mainGlobals "_law_one" = some (some (.ref f__law_one)))
    (l__law_one : K.lookup f__law_one = some ⟨oc__law_one, od__law_one, .func (PySem.W.fnOf "_law_one" "_law_one" (defArgs s__law_one) (defBody s__law_one) (defScope s__law_one) .none kV__law_one dc__law_one pm__law_one an__law_one cd__law_one ct__law_one), sl__law_one⟩)
    (c__law_one : PySem.W.codeIn K cd__law_one "_law_one" = true)
    (k__law_one : PySem.W.keepIn K (.ref f__law_one) = true)
    (a__law_refusal : PySem.W.nsIn K mainGlobals "_law_refusal" = some (some (.ref f__law_refusal)))
    (l__law_refusal : K.lookup f__law_refusal = some ⟨oc__law_refusal, od__law_refusal, .func (PySem.W.fnOf "_law_refusal" "_law_refusal" (defArgs s__law_refusal) (defBody s__law_refusal) (defScope s__law_refusal) .none kV__law_refusal dc__law_refusal pm__law_refusal an__law_refusal cd__law_refusal ct__law_refusal), sl__law_refusal⟩)
    (c__law_refusal : PySem.W.codeIn K cd__law_refusal "_law_refusal" = true)
    (k__law_refusal : PySem.W.keepIn K (.ref f__law_refusal) = true)
    (a__law_told : PySem.W.nsIn K mainGlobals "_law_told" = some (some (.ref f__law_told)))
    (l__law_told : K.lookup f__law_told = some ⟨oc__law_told, od__law_told, .func (PySem.W.fnOf "_law_told" "_law_told" (defArgs s__law_told) (defBody s__law_told) (defScope s__law_told) .none kV__law_told dc__law_told pm__law_told an__law_told cd__law_told ct__law_told), sl__law_told⟩)
    (c__law_told : PySem.W.codeIn K cd__law_told "_law_told" = true)
    (k__law_told : PySem.W.keepIn K (.ref f__law_told) = true)
    (a_law : PySem.W.nsIn K mainGlobals "law" = some (some (.ref f_law)))
    (l_law : K.lookup f_law = some ⟨oc_law, od_law, .func (PySem.W.fnOf "law" "law" (defArgs s_law) (defBody s_law) (defScope s_law) .none kV_law dc_law pm_law an_law cd_law ct_law), sl_law⟩)
    (c_law : PySem.W.codeIn K cd_law "law" = true)
    (k_law : PySem.W.keepIn K (.ref f_law) = true) :
    ∃ fd : FuncData, (∀ (s : Shared) (v : Value), BindsTo s fd ⟨[v], []⟩ [("_law_script", v)]) ∧ ∀ base : Heap, K.In base → base.Ns mainGlobals mg → FnOk P w K mg base (L2.CX P w) 14 fa fd ["_law_script"] (sp_law (⟨K, cE, cT, cN, cA, cS, cH, cR, cK, aW⟩ : G)) := by
  have e := hfa.symm.trans (PySem.W.mg_of X G0 a_law)
  cases e
  have e_BadText : ExcC K cT := ⟨hg_BadText, hk_BadText, sb_BadText, hd_BadText, ha_BadText, hn, ht, hm_BadText⟩
  have e_BadNumber : ExcC K cN := ⟨hg_BadNumber, hk_BadNumber, sb_BadNumber, hd_BadNumber, ha_BadNumber, hn, ht, hm_BadNumber⟩
  have e_BadAsk : ExcC K cA := ⟨hg_BadAsk, hk_BadAsk, sb_BadAsk, hd_BadAsk, ha_BadAsk, hn, ht, hm_BadAsk⟩
  have e_AskError : ExcC K cE := ⟨hg_AskError, hk_AskError, sb_AskError, hd_AskError, ha_AskError, hn, ht, hm_AskError⟩
  have fl_Store : Fld K cS ["rows"] := ⟨⟨pg_Store, pd_Store, po_Store, ps_Store⟩, fun f hf => by
      simp only [List.mem_cons, List.not_mem_nil, or_false] at hf
      rw [hf]
      exact f_Store_rows, by decide +kernel, by decide⟩
  have fl_Asker : Fld K cK ["store", "road", "shelf", "rows_most", "pause", "asks_most", "patience", "time", "now", "typed_at", "is_due", "tries", "asked", "flying", "shown", "rows"] := ⟨⟨pg_Asker, pd_Asker, po_Asker, ps_Asker⟩, fun f hf => by
      simp only [List.mem_cons, List.not_mem_nil, or_false] at hf
      rcases hf with rfl | rfl | rfl | rfl | rfl | rfl | rfl | rfl | rfl | rfl | rfl | rfl | rfl | rfl | rfl | rfl
      · exact f_Asker_store
      · exact f_Asker_road
      · exact f_Asker_shelf
      · exact f_Asker_rows_most
      · exact f_Asker_pause
      · exact f_Asker_asks_most
      · exact f_Asker_patience
      · exact f_Asker_time
      · exact f_Asker_now
      · exact f_Asker_typed_at
      · exact f_Asker_is_due
      · exact f_Asker_tries
      · exact f_Asker_asked
      · exact f_Asker_flying
      · exact f_Asker_shown
      · exact f_Asker_rows, by decide +kernel, by decide⟩
  have fl_Road : Fld K cR ["delays", "sent", "under_way"] := ⟨⟨pg_Road, pd_Road, po_Road, ps_Road⟩, fun f hf => by
      simp only [List.mem_cons, List.not_mem_nil, or_false] at hf
      rcases hf with rfl | rfl | rfl
      · exact f_Road_delays
      · exact f_Road_sent
      · exact f_Road_under_way, by decide +kernel, by decide⟩
  have fl_Shelf : Fld K cH ["most", "term", "kept"] := ⟨⟨pg_Shelf, pd_Shelf, po_Shelf, ps_Shelf⟩, fun f hf => by
      simp only [List.mem_cons, List.not_mem_nil, or_false] at hf
      rcases hf with rfl | rfl | rfl
      · exact f_Shelf_most
      · exact f_Shelf_term
      · exact f_Shelf_kept, by decide +kernel, by decide⟩
  have T : Txt w mg (⟨K, cE, cT, cN, cA, cS, cH, cR, cK, aW⟩ : G) := {
      b_len := PySem.W.mg_none_of X G0 z_len,
      b_ord := PySem.W.mg_none_of X G0 z_ord,
      b_all := PySem.W.mg_none_of X G0 z_all,
      b_sorted := PySem.W.mg_none_of X G0 z_sorted,
      b_list := PySem.W.mg_none_of X G0 z_list,
      b_range := PySem.W.mg_none_of X G0 z_range,
      b_max := PySem.W.mg_none_of X G0 z_max,
      b_str := PySem.W.mg_none_of X G0 z_str,
      b_int := PySem.W.mg_none_of X G0 z_int,
      b_isinstance := PySem.W.mg_none_of X G0 z_isinstance,
      b_ValueError := PySem.W.mg_none_of X G0 z_ValueError,
      c_MOST_ROW := ⟨_, PySem.W.mg_of X G0 n_MOST_ROW⟩,
      c_MOST_TYPED := ⟨_, PySem.W.mg_of X G0 n_MOST_TYPED⟩,
      c_MOST_ANSWER := ⟨_, PySem.W.mg_of X G0 n_MOST_ANSWER⟩,
      c_MOST_ROWS := ⟨_, PySem.W.mg_of X G0 n_MOST_ROWS⟩,
      c_MOST_PAUSE := ⟨_, PySem.W.mg_of X G0 n_MOST_PAUSE⟩,
      c_MOST_ASKS := ⟨_, PySem.W.mg_of X G0 n_MOST_ASKS⟩,
      c_MOST_PATIENCE := ⟨_, PySem.W.mg_of X G0 n_MOST_PATIENCE⟩,
      c_TRIES := ⟨_, PySem.W.mg_of X G0 n_TRIES⟩,
      c_MOST_TICKS := ⟨_, PySem.W.mg_of X G0 n_MOST_TICKS⟩,
      c_MOST_DELAYS := ⟨_, PySem.W.mg_of X G0 n_MOST_DELAYS⟩,
      c_MOST_DELAY := ⟨_, PySem.W.mg_of X G0 n_MOST_DELAY⟩,
      c_MOST_KEPT := ⟨_, PySem.W.mg_of X G0 n_MOST_KEPT⟩,
      c_MOST_TERM := ⟨_, PySem.W.mg_of X G0 n_MOST_TERM⟩,
      c_WORDS := PySem.W.mg_of X G0 n_WORDS,
      w_WORDS := words_at l_WORDS kk_WORDS lo_WORDS,
      c_MOST_TICK := ⟨_, PySem.W.mg_of X G0 n_MOST_TICK⟩,
      c_MOST_SIGNS := ⟨_, PySem.W.mg_of X G0 n_MOST_SIGNS⟩,
      c_FIGURES := ⟨_, PySem.W.mg_of X G0 n_FIGURES⟩,
      x_BadText := ⟨PySem.W.mg_of X G0 a_BadText, ex_BadText, kp_BadText, sb_BadText, ty_BadText, e_BadText⟩,
      x_BadNumber := ⟨PySem.W.mg_of X G0 a_BadNumber, ex_BadNumber, kp_BadNumber, sb_BadNumber, ty_BadNumber, e_BadNumber⟩,
      x_BadAsk := ⟨PySem.W.mg_of X G0 a_BadAsk, ex_BadAsk, kp_BadAsk, sb_BadAsk, ty_BadAsk, e_BadAsk⟩,
      x_AskError := ⟨PySem.W.mg_of X G0 a_AskError, ex_AskError, kp_AskError, sb_AskError, ty_AskError, e_AskError⟩,
      x := ⟨e_BadText, e_BadNumber, e_BadAsk, PySem.W.exm_ref sb_AskError hd_AskError ty_AskError mT, PySem.W.exm_ref sb_AskError hd_AskError ty_AskError mN, PySem.W.exm_ref sb_AskError hd_AskError ty_AskError mA, kTT, kTN, kTA, kNT, kNN, kNA, kAT, kAN, kAA, vT, vN, vA⟩,
      xm := ⟨PySem.W.exm_ref sb_BadText hd_BadText ty_BadText sT, PySem.W.exm_ref sb_BadNumber hd_BadNumber ty_BadNumber sN, PySem.W.exm_ref sb_BadAsk hd_BadAsk ty_BadAsk sA⟩,
      fl_Store := fl_Store,
      fl_Asker := fl_Asker,
      fl_Road := fl_Road,
      fl_Shelf := fl_Shelf }
  have F__law_cell := fun_mk (st := s__law_cell) l__law_cell c__law_cell k__law_cell
  have B__law_cell := F__law_cell.binds (ps := ["_law_script", "_law_k"]) fun _ _ _ _ _ _ us hl => match us, hl with | [_, _], _ => rfl
  have F__law_mix := fun_mk (st := s__law_mix) l__law_mix c__law_mix k__law_mix
  have B__law_mix := F__law_mix.binds (ps := ["_law_script", "_law_k"]) fun _ _ _ _ _ _ us hl => match us, hl with | [_, _], _ => rfl
  have F__law_draw := fun_mk (st := s__law_draw) l__law_draw c__law_draw k__law_draw
  have B__law_draw := F__law_draw.binds (ps := ["_law_script", "_law_town", "_law_many"]) fun _ _ _ _ _ _ us hl => match us, hl with | [_, _, _], _ => rfl
  have F__law_pick := fun_mk (st := s__law_pick) l__law_pick c__law_pick k__law_pick
  have B__law_pick := F__law_pick.binds (ps := ["_law_script", "_law_town", "_law_some"]) fun _ _ _ _ _ _ us hl => match us, hl with | [_, _, _], _ => rfl
  have F__law_query := fun_mk (st := s__law_query) l__law_query c__law_query k__law_query
  have B__law_query := F__law_query.binds (ps := ["_law_script", "_law_town"]) fun _ _ _ _ _ _ us hl => match us, hl with | [_, _], _ => rfl
  have F__law_row := fun_mk (st := s__law_row) l__law_row c__law_row k__law_row
  have B__law_row := F__law_row.binds (ps := ["_law_script", "_law_town"]) fun _ _ _ _ _ _ us hl => match us, hl with | [_, _], _ => rfl
  have F__law_deed := fun_mk (st := s__law_deed) l__law_deed c__law_deed k__law_deed
  have B__law_deed := F__law_deed.binds (ps := ["_law_script", "_law_town"]) fun _ _ _ _ _ _ us hl => match us, hl with | [_, _], _ => rfl
  have F__law_text := fun_mk (st := s__law_text) l__law_text c__law_text k__law_text
  have B__law_text := F__law_text.binds (ps := ["_law_deeds"]) fun _ _ _ _ _ _ us hl => match us, hl with | [_], _ => rfl
  have F_look_text := fun_mk (st := s_look_text) l_look_text c_look_text k_look_text
  have B_look_text := F_look_text.binds (ps := ["text", "most"]) fun _ _ _ _ _ _ us hl => match us, hl with | [_, _], _ => rfl
  have F_deed_in := fun_mk (st := s_deed_in) l_deed_in c_deed_in k_deed_in
  have B_deed_in := F_deed_in.binds (ps := ["row"]) fun _ _ _ _ _ _ us hl => match us, hl with | [_], _ => rfl
  have F_row_of := fun_mk (st := s_row_of) l_row_of c_row_of k_row_of
  have B_row_of := F_row_of.binds (ps := ["deed"]) fun _ _ _ _ _ _ us hl => match us, hl with | [_], _ => rfl
  have F_read_diary := fun_mk (st := s_read_diary) l_read_diary c_read_diary k_read_diary
  have B_read_diary := F_read_diary.binds (ps := ["text"]) fun _ _ _ _ _ _ us hl => match us, hl with | [_], _ => rfl
  have F_look_deed := fun_mk (st := s_look_deed) l_look_deed c_look_deed k_look_deed
  have B_look_deed := F_look_deed.binds (ps := ["deed"]) fun _ _ _ _ _ _ us hl => match us, hl with | [_], _ => rfl
  have F_look_deeds := fun_mk (st := s_look_deeds) l_look_deeds c_look_deeds k_look_deeds
  have B_look_deeds := F_look_deeds.binds (ps := ["deeds"]) fun _ _ _ _ _ _ us hl => match us, hl with | [_], _ => rfl
  have F_diary_text := fun_mk (st := s_diary_text) l_diary_text c_diary_text k_diary_text
  have B_diary_text := F_diary_text.binds (ps := ["deeds"]) fun _ _ _ _ _ _ us hl => match us, hl with | [_], _ => rfl
  have F_Store___init__ := fun_mk (st := s_Store___init__) l_Store___init__ c_Store___init__ k_Store___init__
  have B_Store___init__ := F_Store___init__.binds (ps := ["self"]) fun _ _ _ _ _ _ us hl => match us, hl with | [_], _ => rfl
  have F_Shelf___init__ := fun_mk (st := s_Shelf___init__) l_Shelf___init__ c_Shelf___init__ k_Shelf___init__
  have B_Shelf___init__ := F_Shelf___init__.binds (ps := ["self", "most", "term"]) fun _ _ _ _ _ _ us hl => match us, hl with | [_, _, _], _ => rfl
  have F_Road___init__ := fun_mk (st := s_Road___init__) l_Road___init__ c_Road___init__ k_Road___init__
  have B_Road___init__ := F_Road___init__.binds (ps := ["self", "delays"]) fun _ _ _ _ _ _ us hl => match us, hl with | [_, _], _ => rfl
  have F_look_many := fun_mk (st := s_look_many) l_look_many c_look_many k_look_many
  have B_look_many := F_look_many.binds (ps := ["many"]) fun _ _ _ _ _ _ us hl => match us, hl with | [_], _ => rfl
  have F_Asker___init__ := fun_mk (st := s_Asker___init__) l_Asker___init__ c_Asker___init__ k_Asker___init__
  have B_Asker___init__ := F_Asker___init__.binds (ps := ["self", "store", "road", "shelf", "many", "pause", "asks", "patience"]) fun _ _ _ _ _ _ us hl => match us, hl with | [_, _, _, _, _, _, _, _], _ => rfl
  have F_folded := fun_mk (st := s_folded) l_folded c_folded k_folded
  have B_folded := F_folded.binds (ps := ["text"]) fun _ _ _ _ _ _ us hl => match us, hl with | [_], _ => rfl
  have F_Asker_is_fresh := fun_mk (st := s_Asker_is_fresh) l_Asker_is_fresh c_Asker_is_fresh k_Asker_is_fresh
  have B_Asker_is_fresh := F_Asker_is_fresh.binds (ps := ["self"]) fun _ _ _ _ _ _ us hl => match us, hl with | [_], _ => rfl
  have F_Asker_view := fun_mk (st := s_Asker_view) l_Asker_view c_Asker_view k_Asker_view
  have B_Asker_view := F_Asker_view.binds (ps := ["self"]) fun _ _ _ _ _ _ us hl => match us, hl with | [_], _ => rfl
  have F_Asker_drop_other := fun_mk (st := s_Asker_drop_other) l_Asker_drop_other c_Asker_drop_other k_Asker_drop_other
  have B_Asker_drop_other := F_Asker_drop_other.binds (ps := ["self", "wanted"]) fun _ _ _ _ _ _ us hl => match us, hl with | [_, _], _ => rfl
  have F_Shelf_source := fun_mk (st := s_Shelf_source) l_Shelf_source c_Shelf_source k_Shelf_source
  have B_Shelf_source := F_Shelf_source.binds (ps := ["self", "query", "time"]) fun _ _ _ _ _ _ us hl => match us, hl with | [_, _, _], _ => rfl
  have F_rank := fun_mk (st := s_rank) l_rank c_rank k_rank
  have B_rank := F_rank.binds (ps := ["row", "query"]) fun _ _ _ _ _ _ us hl => match us, hl with | [_, _], _ => rfl
  have F_best := fun_mk (st := s_best) l_best c_best k_best
  have B_best := F_best.binds (ps := ["rows", "query", "many"]) fun _ _ _ _ _ _ us hl => match us, hl with | [_, _, _], _ => rfl
  have F_Shelf_get := fun_mk (st := s_Shelf_get) l_Shelf_get c_Shelf_get k_Shelf_get
  have B_Shelf_get := F_Shelf_get.binds (ps := ["self", "query", "many", "time"]) fun _ _ _ _ _ _ us hl => match us, hl with | [_, _, _, _], _ => rfl
  have F_Asker_show := fun_mk (st := s_Asker_show) l_Asker_show c_Asker_show k_Asker_show
  have B_Asker_show := F_Asker_show.binds (ps := ["self", "some"]) fun _ _ _ _ _ _ us hl => match us, hl with | [_, _], _ => rfl
  have F_Asker_look_near := fun_mk (st := s_Asker_look_near) l_Asker_look_near c_Asker_look_near k_Asker_look_near
  have B_Asker_look_near := F_Asker_look_near.binds (ps := ["self"]) fun _ _ _ _ _ _ us hl => match us, hl with | [_], _ => rfl
  have F_Road_send := fun_mk (st := s_Road_send) l_Road_send c_Road_send k_Road_send
  have B_Road_send := F_Road_send.binds (ps := ["self", "query", "time"]) fun _ _ _ _ _ _ us hl => match us, hl with | [_, _, _], _ => rfl
  have F_Asker_ask_if_due := fun_mk (st := s_Asker_ask_if_due) l_Asker_ask_if_due c_Asker_ask_if_due k_Asker_ask_if_due
  have B_Asker_ask_if_due := F_Asker_ask_if_due.binds (ps := ["self"]) fun _ _ _ _ _ _ us hl => match us, hl with | [_], _ => rfl
  have F_Asker_put := fun_mk (st := s_Asker_put) l_Asker_put c_Asker_put k_Asker_put
  have B_Asker_put := F_Asker_put.binds (ps := ["self", "text"]) fun _ _ _ _ _ _ us hl => match us, hl with | [_, _], _ => rfl
  have F_Asker_key := fun_mk (st := s_Asker_key) l_Asker_key c_Asker_key k_Asker_key
  have B_Asker_key := F_Asker_key.binds (ps := ["self", "sign"]) fun _ _ _ _ _ _ us hl => match us, hl with | [_, _], _ => rfl
  have F_Asker_rub := fun_mk (st := s_Asker_rub) l_Asker_rub c_Asker_rub k_Asker_rub
  have B_Asker_rub := F_Asker_rub.binds (ps := ["self"]) fun _ _ _ _ _ _ us hl => match us, hl with | [_], _ => rfl
  have F_Road_due := fun_mk (st := s_Road_due) l_Road_due c_Road_due k_Road_due
  have B_Road_due := F_Road_due.binds (ps := ["self", "time"]) fun _ _ _ _ _ _ us hl => match us, hl with | [_, _], _ => rfl
  have F_Store_answer := fun_mk (st := s_Store_answer) l_Store_answer c_Store_answer k_Store_answer
  have B_Store_answer := F_Store_answer.binds (ps := ["self", "query", "many"]) fun _ _ _ _ _ _ us hl => match us, hl with | [_, _, _], _ => rfl
  have F_Shelf_put := fun_mk (st := s_Shelf_put) l_Shelf_put c_Shelf_put k_Shelf_put
  have B_Shelf_put := F_Shelf_put.binds (ps := ["self", "query", "rows", "is_all", "time"]) fun _ _ _ _ _ _ us hl => match us, hl with | [_, _, _, _, _], _ => rfl
  have F_Asker_try_again := fun_mk (st := s_Asker_try_again) l_Asker_try_again c_Asker_try_again k_Asker_try_again
  have B_Asker_try_again := F_Asker_try_again.binds (ps := ["self"]) fun _ _ _ _ _ _ us hl => match us, hl with | [_], _ => rfl
  have F_Asker_step := fun_mk (st := s_Asker_step) l_Asker_step c_Asker_step k_Asker_step
  have B_Asker_step := F_Asker_step.binds (ps := ["self"]) fun _ _ _ _ _ _ us hl => match us, hl with | [_], _ => rfl
  have F_Asker_tick := fun_mk (st := s_Asker_tick) l_Asker_tick c_Asker_tick k_Asker_tick
  have B_Asker_tick := F_Asker_tick.binds (ps := ["self", "many"]) fun _ _ _ _ _ _ us hl => match us, hl with | [_, _], _ => rfl
  have F_Shelf_clear := fun_mk (st := s_Shelf_clear) l_Shelf_clear c_Shelf_clear k_Shelf_clear
  have B_Shelf_clear := F_Shelf_clear.binds (ps := ["self"]) fun _ _ _ _ _ _ us hl => match us, hl with | [_], _ => rfl
  have F_Asker_again := fun_mk (st := s_Asker_again) l_Asker_again c_Asker_again k_Asker_again
  have B_Asker_again := F_Asker_again.binds (ps := ["self"]) fun _ _ _ _ _ _ us hl => match us, hl with | [_], _ => rfl
  have F_Store_add := fun_mk (st := s_Store_add) l_Store_add c_Store_add k_Store_add
  have B_Store_add := F_Store_add.binds (ps := ["self", "row"]) fun _ _ _ _ _ _ us hl => match us, hl with | [_, _], _ => rfl
  have F_Store_remove := fun_mk (st := s_Store_remove) l_Store_remove c_Store_remove k_Store_remove
  have B_Store_remove := F_Store_remove.binds (ps := ["self", "row"]) fun _ _ _ _ _ _ us hl => match us, hl with | [_, _], _ => rfl
  have F_do := fun_mk (st := s_do) l_do c_do k_do
  have B_do := F_do.binds (ps := ["store", "asker", "deed"]) fun _ _ _ _ _ _ us hl => match us, hl with | [_, _, _], _ => rfl
  have F_word_of := fun_mk (st := s_word_of) l_word_of c_word_of k_word_of
  have B_word_of := F_word_of.binds (ps := ["store", "asker", "deed"]) fun _ _ _ _ _ _ us hl => match us, hl with | [_, _, _], _ => rfl
  have F_Asker_log := fun_mk (st := s_Asker_log) l_Asker_log c_Asker_log k_Asker_log
  have B_Asker_log := F_Asker_log.binds (ps := ["self"]) fun _ _ _ _ _ _ us hl => match us, hl with | [_], _ => rfl
  have F_played := fun_mk (st := s_played) l_played c_played k_played
  have B_played := F_played.binds (ps := ["delays", "shelf", "rules", "deeds"]) fun _ _ _ _ _ _ us hl => match us, hl with | [_, _, _, _], _ => rfl
  have F__law_one := fun_mk (st := s__law_one) l__law_one c__law_one k__law_one
  have B__law_one := F__law_one.binds (ps := ["_law_kind", "_law_given"]) fun _ _ _ _ _ _ us hl => match us, hl with | [_, _], _ => rfl
  have F__law_refusal := fun_mk (st := s__law_refusal) l__law_refusal c__law_refusal k__law_refusal
  have B__law_refusal := F__law_refusal.binds (ps := ["_law_caught"]) fun _ _ _ _ _ _ us hl => match us, hl with | [_], _ => rfl
  have F__law_told := fun_mk (st := s__law_told) l__law_told c__law_told k__law_told
  have B__law_told := F__law_told.binds (ps := ["_law_kind", "_law_some"]) fun _ _ _ _ _ _ us hl => match us, hl with | [_, _], _ => rfl
  have F_law := fun_mk (st := s_law) l_law c_law k_law
  have B_law := F_law.binds (ps := ["_law_script"]) fun _ _ _ _ _ _ us hl => match us, hl with | [_], _ => rfl
  refine ⟨PySem.W.fnOf "law" "law" (defArgs s_law) (defBody s_law) (defScope s_law) .none kV_law dc_law pm_law an_law cd_law ct_law, fun s v => .of_eq rfl, fun base _ _ => ?_⟩
  have C__law_cell : Cal P w K mg base 1 "_law_cell" (sp__law_cell (⟨K, cE, cT, cN, cA, cS, cH, cR, cK, aW⟩ : G)) := ⟨f__law_cell, _, _, (ok__law_cell (g := (⟨K, cE, cT, cN, cA, cS, cH, cR, cK, aW⟩ : G)) F__law_cell T ), PySem.W.mg_of X G0 a__law_cell, k__law_cell, B__law_cell⟩
  have C__law_mix : Cal P w K mg base 2 "_law_mix" (sp__law_mix (⟨K, cE, cT, cN, cA, cS, cH, cR, cK, aW⟩ : G)) := ⟨f__law_mix, _, _, (ok__law_mix (g := (⟨K, cE, cT, cN, cA, cS, cH, cR, cK, aW⟩ : G)) F__law_mix T C__law_cell), PySem.W.mg_of X G0 a__law_mix, k__law_mix, B__law_mix⟩
  have C__law_draw : Cal P w K mg base 3 "_law_draw" (sp__law_draw (⟨K, cE, cT, cN, cA, cS, cH, cR, cK, aW⟩ : G)) := ⟨f__law_draw, _, _, (ok__law_draw (g := (⟨K, cE, cT, cN, cA, cS, cH, cR, cK, aW⟩ : G)) F__law_draw T C__law_mix), PySem.W.mg_of X G0 a__law_draw, k__law_draw, B__law_draw⟩
  have C__law_pick : Cal P w K mg base 4 "_law_pick" (sp__law_pick (⟨K, cE, cT, cN, cA, cS, cH, cR, cK, aW⟩ : G)) := ⟨f__law_pick, _, _, (ok__law_pick (g := (⟨K, cE, cT, cN, cA, cS, cH, cR, cK, aW⟩ : G)) F__law_pick T C__law_draw), PySem.W.mg_of X G0 a__law_pick, k__law_pick, B__law_pick⟩
  have C__law_query : Cal P w K mg base 5 "_law_query" (sp__law_query (⟨K, cE, cT, cN, cA, cS, cH, cR, cK, aW⟩ : G)) := ⟨f__law_query, _, _, (ok__law_query (g := (⟨K, cE, cT, cN, cA, cS, cH, cR, cK, aW⟩ : G)) F__law_query T C__law_draw C__law_pick), PySem.W.mg_of X G0 a__law_query, k__law_query, B__law_query⟩
  have C__law_row : Cal P w K mg base 5 "_law_row" (sp__law_row (⟨K, cE, cT, cN, cA, cS, cH, cR, cK, aW⟩ : G)) := ⟨f__law_row, _, _, (ok__law_row (g := (⟨K, cE, cT, cN, cA, cS, cH, cR, cK, aW⟩ : G)) F__law_row T C__law_draw C__law_pick), PySem.W.mg_of X G0 a__law_row, k__law_row, B__law_row⟩
  have C__law_deed : Cal P w K mg base 6 "_law_deed" (sp__law_deed (⟨K, cE, cT, cN, cA, cS, cH, cR, cK, aW⟩ : G)) := ⟨f__law_deed, _, _, (ok__law_deed (g := (⟨K, cE, cT, cN, cA, cS, cH, cR, cK, aW⟩ : G)) F__law_deed T C__law_draw C__law_pick C__law_query C__law_row), PySem.W.mg_of X G0 a__law_deed, k__law_deed, B__law_deed⟩
  have C__law_text : Cal P w K mg base 1 "_law_text" (sp__law_text (⟨K, cE, cT, cN, cA, cS, cH, cR, cK, aW⟩ : G)) := ⟨f__law_text, _, _, (ok__law_text (g := (⟨K, cE, cT, cN, cA, cS, cH, cR, cK, aW⟩ : G)) F__law_text T ), PySem.W.mg_of X G0 a__law_text, k__law_text, B__law_text⟩
  have C_look_text : Cal P w K mg base 1 "look_text" (sp_look_text (⟨K, cE, cT, cN, cA, cS, cH, cR, cK, aW⟩ : G)) := ⟨f_look_text, _, _, (ok_look_text (g := (⟨K, cE, cT, cN, cA, cS, cH, cR, cK, aW⟩ : G)) F_look_text T ), PySem.W.mg_of X G0 a_look_text, k_look_text, B_look_text⟩
  have C_deed_in : Cal P w K mg base 2 "deed_in" (sp_deed_in (⟨K, cE, cT, cN, cA, cS, cH, cR, cK, aW⟩ : G)) := ⟨f_deed_in, _, _, (ok_deed_in (g := (⟨K, cE, cT, cN, cA, cS, cH, cR, cK, aW⟩ : G)) F_deed_in T C_look_text), PySem.W.mg_of X G0 a_deed_in, k_deed_in, B_deed_in⟩
  have C_row_of : Cal P w K mg base 1 "row_of" (sp_row_of (⟨K, cE, cT, cN, cA, cS, cH, cR, cK, aW⟩ : G)) := ⟨f_row_of, _, _, (ok_row_of (g := (⟨K, cE, cT, cN, cA, cS, cH, cR, cK, aW⟩ : G)) F_row_of T ), PySem.W.mg_of X G0 a_row_of, k_row_of, B_row_of⟩
  have C_read_diary : Cal P w K mg base 3 "read_diary" (sp_read_diary (⟨K, cE, cT, cN, cA, cS, cH, cR, cK, aW⟩ : G)) := ⟨f_read_diary, _, _, (ok_read_diary (g := (⟨K, cE, cT, cN, cA, cS, cH, cR, cK, aW⟩ : G)) F_read_diary T C_deed_in C_row_of), PySem.W.mg_of X G0 a_read_diary, k_read_diary, B_read_diary⟩
  have C_look_deed : Cal P w K mg base 2 "look_deed" (sp_look_deed (⟨K, cE, cT, cN, cA, cS, cH, cR, cK, aW⟩ : G)) := ⟨f_look_deed, _, _, (ok_look_deed (g := (⟨K, cE, cT, cN, cA, cS, cH, cR, cK, aW⟩ : G)) F_look_deed T C_look_text), PySem.W.mg_of X G0 a_look_deed, k_look_deed, B_look_deed⟩
  have C_look_deeds : Cal P w K mg base 3 "look_deeds" (sp_look_deeds (⟨K, cE, cT, cN, cA, cS, cH, cR, cK, aW⟩ : G)) := ⟨f_look_deeds, _, _, (ok_look_deeds (g := (⟨K, cE, cT, cN, cA, cS, cH, cR, cK, aW⟩ : G)) F_look_deeds T C_look_deed), PySem.W.mg_of X G0 a_look_deeds, k_look_deeds, B_look_deeds⟩
  have C_diary_text : Cal P w K mg base 4 "diary_text" (sp_diary_text (⟨K, cE, cT, cN, cA, cS, cH, cR, cK, aW⟩ : G)) := ⟨f_diary_text, _, _, (ok_diary_text (g := (⟨K, cE, cT, cN, cA, cS, cH, cR, cK, aW⟩ : G)) F_diary_text T C_look_deeds C_row_of), PySem.W.mg_of X G0 a_diary_text, k_diary_text, B_diary_text⟩
  have C_Store : Mak P w K mg base 1 "Store" cS (sp_Store___init__ (⟨K, cE, cT, cN, cA, cS, cH, cR, cK, aW⟩ : G)) := ⟨f_Store___init__, _, _, ⟨pm_Store, a_Store___init__, i_Store___init__, pk_Store⟩, (ok_Store___init__ (g := (⟨K, cE, cT, cN, cA, cS, cH, cR, cK, aW⟩ : G)) F_Store___init__ T ), PySem.W.mg_of X G0 g_Store, B_Store___init__⟩
  have C_Shelf : Mak P w K mg base 1 "Shelf" cH (sp_Shelf___init__ (⟨K, cE, cT, cN, cA, cS, cH, cR, cK, aW⟩ : G)) := ⟨f_Shelf___init__, _, _, ⟨pm_Shelf, a_Shelf___init__, i_Shelf___init__, pk_Shelf⟩, (ok_Shelf___init__ (g := (⟨K, cE, cT, cN, cA, cS, cH, cR, cK, aW⟩ : G)) F_Shelf___init__ T ), PySem.W.mg_of X G0 g_Shelf, B_Shelf___init__⟩
  have C_Road : Mak P w K mg base 1 "Road" cR (sp_Road___init__ (⟨K, cE, cT, cN, cA, cS, cH, cR, cK, aW⟩ : G)) := ⟨f_Road___init__, _, _, ⟨pm_Road, a_Road___init__, i_Road___init__, pk_Road⟩, (ok_Road___init__ (g := (⟨K, cE, cT, cN, cA, cS, cH, cR, cK, aW⟩ : G)) F_Road___init__ T ), PySem.W.mg_of X G0 g_Road, B_Road___init__⟩
  have C_look_many : Cal P w K mg base 1 "look_many" (sp_look_many (⟨K, cE, cT, cN, cA, cS, cH, cR, cK, aW⟩ : G)) := ⟨f_look_many, _, _, (ok_look_many (g := (⟨K, cE, cT, cN, cA, cS, cH, cR, cK, aW⟩ : G)) F_look_many T ), PySem.W.mg_of X G0 a_look_many, k_look_many, B_look_many⟩
  have C_Asker : Mak P w K mg base 2 "Asker" cK (sp_Asker___init__ (⟨K, cE, cT, cN, cA, cS, cH, cR, cK, aW⟩ : G)) := ⟨f_Asker___init__, _, _, ⟨pm_Asker, a_Asker___init__, i_Asker___init__, pk_Asker⟩, (ok_Asker___init__ (g := (⟨K, cE, cT, cN, cA, cS, cH, cR, cK, aW⟩ : G)) F_Asker___init__ T C_look_many), PySem.W.mg_of X G0 g_Asker, B_Asker___init__⟩
  have C_folded : Cal P w K mg base 2 "folded" (sp_folded (⟨K, cE, cT, cN, cA, cS, cH, cR, cK, aW⟩ : G)) := ⟨f_folded, _, _, (ok_folded (g := (⟨K, cE, cT, cN, cA, cS, cH, cR, cK, aW⟩ : G)) F_folded T C_look_text), PySem.W.mg_of X G0 a_folded, k_folded, B_folded⟩
  have C_Asker_is_fresh : Met P w K mg base 3 cK "is_fresh" (sp_Asker_is_fresh (⟨K, cE, cT, cN, cA, cS, cH, cR, cK, aW⟩ : G)) := ⟨f_Asker_is_fresh, _, _, fl_Asker.cl, ⟨a_Asker_is_fresh, i_Asker_is_fresh, k_Asker_is_fresh⟩, (ok_Asker_is_fresh (g := (⟨K, cE, cT, cN, cA, cS, cH, cR, cK, aW⟩ : G)) F_Asker_is_fresh T C_folded), B_Asker_is_fresh⟩
  have C_Asker_view : Met P w K mg base 4 cK "view" (sp_Asker_view (⟨K, cE, cT, cN, cA, cS, cH, cR, cK, aW⟩ : G)) := ⟨f_Asker_view, _, _, fl_Asker.cl, ⟨a_Asker_view, i_Asker_view, k_Asker_view⟩, (ok_Asker_view (g := (⟨K, cE, cT, cN, cA, cS, cH, cR, cK, aW⟩ : G)) F_Asker_view T C_Asker_is_fresh), B_Asker_view⟩
  have C_Asker_drop_other : Met P w K mg base 3 cK "drop_other" (sp_Asker_drop_other (⟨K, cE, cT, cN, cA, cS, cH, cR, cK, aW⟩ : G)) := ⟨f_Asker_drop_other, _, _, fl_Asker.cl, ⟨a_Asker_drop_other, i_Asker_drop_other, k_Asker_drop_other⟩, (ok_Asker_drop_other (g := (⟨K, cE, cT, cN, cA, cS, cH, cR, cK, aW⟩ : G)) F_Asker_drop_other T C_folded), B_Asker_drop_other⟩
  have C_Shelf_source : Met P w K mg base 3 cH "source" (sp_Shelf_source (⟨K, cE, cT, cN, cA, cS, cH, cR, cK, aW⟩ : G)) := ⟨f_Shelf_source, _, _, fl_Shelf.cl, ⟨a_Shelf_source, i_Shelf_source, k_Shelf_source⟩, (ok_Shelf_source (g := (⟨K, cE, cT, cN, cA, cS, cH, cR, cK, aW⟩ : G)) F_Shelf_source T C_folded), B_Shelf_source⟩
  have C_rank : Cal P w K mg base 3 "rank" (sp_rank (⟨K, cE, cT, cN, cA, cS, cH, cR, cK, aW⟩ : G)) := ⟨f_rank, _, _, (ok_rank (g := (⟨K, cE, cT, cN, cA, cS, cH, cR, cK, aW⟩ : G)) F_rank T C_look_text C_folded), PySem.W.mg_of X G0 a_rank, k_rank, B_rank⟩
  have C_best : Cal P w K mg base 4 "best" (sp_best (⟨K, cE, cT, cN, cA, cS, cH, cR, cK, aW⟩ : G)) := ⟨f_best, _, _, (ok_best (g := (⟨K, cE, cT, cN, cA, cS, cH, cR, cK, aW⟩ : G)) F_best T C_folded C_rank), PySem.W.mg_of X G0 a_best, k_best, B_best⟩
  have C_Shelf_get : Met P w K mg base 5 cH "get" (sp_Shelf_get (⟨K, cE, cT, cN, cA, cS, cH, cR, cK, aW⟩ : G)) := ⟨f_Shelf_get, _, _, fl_Shelf.cl, ⟨a_Shelf_get, i_Shelf_get, k_Shelf_get⟩, (ok_Shelf_get (g := (⟨K, cE, cT, cN, cA, cS, cH, cR, cK, aW⟩ : G)) F_Shelf_get T C_Shelf_source C_best), B_Shelf_get⟩
  have C_Asker_show : Met P w K mg base 4 cK "show" (sp_Asker_show (⟨K, cE, cT, cN, cA, cS, cH, cR, cK, aW⟩ : G)) := ⟨f_Asker_show, _, _, fl_Asker.cl, ⟨a_Asker_show, i_Asker_show, k_Asker_show⟩, (ok_Asker_show (g := (⟨K, cE, cT, cN, cA, cS, cH, cR, cK, aW⟩ : G)) F_Asker_show T C_folded C_Asker_drop_other), B_Asker_show⟩
  have C_Asker_look_near : Met P w K mg base 6 cK "look_near" (sp_Asker_look_near (⟨K, cE, cT, cN, cA, cS, cH, cR, cK, aW⟩ : G)) := ⟨f_Asker_look_near, _, _, fl_Asker.cl, ⟨a_Asker_look_near, i_Asker_look_near, k_Asker_look_near⟩, (ok_Asker_look_near (g := (⟨K, cE, cT, cN, cA, cS, cH, cR, cK, aW⟩ : G)) F_Asker_look_near T C_folded C_Shelf_get C_Asker_show C_Asker_is_fresh C_best), B_Asker_look_near⟩
  have C_Road_send : Met P w K mg base 1 cR "send" (sp_Road_send (⟨K, cE, cT, cN, cA, cS, cH, cR, cK, aW⟩ : G)) := ⟨f_Road_send, _, _, fl_Road.cl, ⟨a_Road_send, i_Road_send, k_Road_send⟩, (ok_Road_send (g := (⟨K, cE, cT, cN, cA, cS, cH, cR, cK, aW⟩ : G)) F_Road_send T ), B_Road_send⟩
  have C_Asker_ask_if_due : Met P w K mg base 3 cK "ask_if_due" (sp_Asker_ask_if_due (⟨K, cE, cT, cN, cA, cS, cH, cR, cK, aW⟩ : G)) := ⟨f_Asker_ask_if_due, _, _, fl_Asker.cl, ⟨a_Asker_ask_if_due, i_Asker_ask_if_due, k_Asker_ask_if_due⟩, (ok_Asker_ask_if_due (g := (⟨K, cE, cT, cN, cA, cS, cH, cR, cK, aW⟩ : G)) F_Asker_ask_if_due T C_Road_send C_folded), B_Asker_ask_if_due⟩
  have C_Asker_put : Met P w K mg base 7 cK "put" (sp_Asker_put (⟨K, cE, cT, cN, cA, cS, cH, cR, cK, aW⟩ : G)) := ⟨f_Asker_put, _, _, fl_Asker.cl, ⟨a_Asker_put, i_Asker_put, k_Asker_put⟩, (ok_Asker_put (g := (⟨K, cE, cT, cN, cA, cS, cH, cR, cK, aW⟩ : G)) F_Asker_put T C_look_text C_folded C_Asker_drop_other C_Asker_look_near C_Asker_ask_if_due), B_Asker_put⟩
  have C_Asker_key : Met P w K mg base 8 cK "key" (sp_Asker_key (⟨K, cE, cT, cN, cA, cS, cH, cR, cK, aW⟩ : G)) := ⟨f_Asker_key, _, _, fl_Asker.cl, ⟨a_Asker_key, i_Asker_key, k_Asker_key⟩, (ok_Asker_key (g := (⟨K, cE, cT, cN, cA, cS, cH, cR, cK, aW⟩ : G)) F_Asker_key T C_Asker_put), B_Asker_key⟩
  have C_Asker_rub : Met P w K mg base 8 cK "rub" (sp_Asker_rub (⟨K, cE, cT, cN, cA, cS, cH, cR, cK, aW⟩ : G)) := ⟨f_Asker_rub, _, _, fl_Asker.cl, ⟨a_Asker_rub, i_Asker_rub, k_Asker_rub⟩, (ok_Asker_rub (g := (⟨K, cE, cT, cN, cA, cS, cH, cR, cK, aW⟩ : G)) F_Asker_rub T C_Asker_put), B_Asker_rub⟩
  have C_Road_due : Met P w K mg base 1 cR "due" (sp_Road_due (⟨K, cE, cT, cN, cA, cS, cH, cR, cK, aW⟩ : G)) := ⟨f_Road_due, _, _, fl_Road.cl, ⟨a_Road_due, i_Road_due, k_Road_due⟩, (ok_Road_due (g := (⟨K, cE, cT, cN, cA, cS, cH, cR, cK, aW⟩ : G)) F_Road_due T ), B_Road_due⟩
  have C_Store_answer : Met P w K mg base 5 cS "answer" (sp_Store_answer (⟨K, cE, cT, cN, cA, cS, cH, cR, cK, aW⟩ : G)) := ⟨f_Store_answer, _, _, fl_Store.cl, ⟨a_Store_answer, i_Store_answer, k_Store_answer⟩, (ok_Store_answer (g := (⟨K, cE, cT, cN, cA, cS, cH, cR, cK, aW⟩ : G)) F_Store_answer T C_look_many C_look_text C_best), B_Store_answer⟩
  have C_Shelf_put : Met P w K mg base 3 cH "put" (sp_Shelf_put (⟨K, cE, cT, cN, cA, cS, cH, cR, cK, aW⟩ : G)) := ⟨f_Shelf_put, _, _, fl_Shelf.cl, ⟨a_Shelf_put, i_Shelf_put, k_Shelf_put⟩, (ok_Shelf_put (g := (⟨K, cE, cT, cN, cA, cS, cH, cR, cK, aW⟩ : G)) F_Shelf_put T C_folded), B_Shelf_put⟩
  have C_Asker_try_again : Met P w K mg base 1 cK "try_again" (sp_Asker_try_again (⟨K, cE, cT, cN, cA, cS, cH, cR, cK, aW⟩ : G)) := ⟨f_Asker_try_again, _, _, fl_Asker.cl, ⟨a_Asker_try_again, i_Asker_try_again, k_Asker_try_again⟩, (ok_Asker_try_again (g := (⟨K, cE, cT, cN, cA, cS, cH, cR, cK, aW⟩ : G)) F_Asker_try_again T ), B_Asker_try_again⟩
  have C_Asker_step : Met P w K mg base 7 cK "step" (sp_Asker_step (⟨K, cE, cT, cN, cA, cS, cH, cR, cK, aW⟩ : G)) := ⟨f_Asker_step, _, _, fl_Asker.cl, ⟨a_Asker_step, i_Asker_step, k_Asker_step⟩, (ok_Asker_step (g := (⟨K, cE, cT, cN, cA, cS, cH, cR, cK, aW⟩ : G)) F_Asker_step T C_Road_due C_Store_answer C_Shelf_put C_Asker_show C_Asker_look_near C_Asker_try_again C_Asker_ask_if_due), B_Asker_step⟩
  have C_Asker_tick : Met P w K mg base 8 cK "tick" (sp_Asker_tick (⟨K, cE, cT, cN, cA, cS, cH, cR, cK, aW⟩ : G)) := ⟨f_Asker_tick, _, _, fl_Asker.cl, ⟨a_Asker_tick, i_Asker_tick, k_Asker_tick⟩, (ok_Asker_tick (g := (⟨K, cE, cT, cN, cA, cS, cH, cR, cK, aW⟩ : G)) F_Asker_tick T C_Asker_step), B_Asker_tick⟩
  have C_Shelf_clear : Met P w K mg base 1 cH "clear" (sp_Shelf_clear (⟨K, cE, cT, cN, cA, cS, cH, cR, cK, aW⟩ : G)) := ⟨f_Shelf_clear, _, _, fl_Shelf.cl, ⟨a_Shelf_clear, i_Shelf_clear, k_Shelf_clear⟩, (ok_Shelf_clear (g := (⟨K, cE, cT, cN, cA, cS, cH, cR, cK, aW⟩ : G)) F_Shelf_clear T ), B_Shelf_clear⟩
  have C_Asker_again : Met P w K mg base 4 cK "again" (sp_Asker_again (⟨K, cE, cT, cN, cA, cS, cH, cR, cK, aW⟩ : G)) := ⟨f_Asker_again, _, _, fl_Asker.cl, ⟨a_Asker_again, i_Asker_again, k_Asker_again⟩, (ok_Asker_again (g := (⟨K, cE, cT, cN, cA, cS, cH, cR, cK, aW⟩ : G)) F_Asker_again T C_folded C_Shelf_clear C_Asker_ask_if_due), B_Asker_again⟩
  have C_Store_add : Met P w K mg base 3 cS "add" (sp_Store_add (⟨K, cE, cT, cN, cA, cS, cH, cR, cK, aW⟩ : G)) := ⟨f_Store_add, _, _, fl_Store.cl, ⟨a_Store_add, i_Store_add, k_Store_add⟩, (ok_Store_add (g := (⟨K, cE, cT, cN, cA, cS, cH, cR, cK, aW⟩ : G)) F_Store_add T C_look_text C_folded), B_Store_add⟩
  have C_Store_remove : Met P w K mg base 1 cS "remove" (sp_Store_remove (⟨K, cE, cT, cN, cA, cS, cH, cR, cK, aW⟩ : G)) := ⟨f_Store_remove, _, _, fl_Store.cl, ⟨a_Store_remove, i_Store_remove, k_Store_remove⟩, (ok_Store_remove (g := (⟨K, cE, cT, cN, cA, cS, cH, cR, cK, aW⟩ : G)) F_Store_remove T ), B_Store_remove⟩
  have C_do : Cal P w K mg base 9 "do" (sp_do (⟨K, cE, cT, cN, cA, cS, cH, cR, cK, aW⟩ : G)) := ⟨f_do, _, _, (ok_do (g := (⟨K, cE, cT, cN, cA, cS, cH, cR, cK, aW⟩ : G)) F_do T C_Asker_put C_Asker_key C_Asker_rub C_Asker_tick C_Asker_again C_Store_add C_Store_remove), PySem.W.mg_of X G0 a_do, k_do, B_do⟩
  have C_word_of : Cal P w K mg base 10 "word_of" (sp_word_of (⟨K, cE, cT, cN, cA, cS, cH, cR, cK, aW⟩ : G)) := ⟨f_word_of, _, _, (ok_word_of (g := (⟨K, cE, cT, cN, cA, cS, cH, cR, cK, aW⟩ : G)) F_word_of T C_do), PySem.W.mg_of X G0 a_word_of, k_word_of, B_word_of⟩
  have C_Asker_log : Met P w K mg base 1 cK "log" (sp_Asker_log (⟨K, cE, cT, cN, cA, cS, cH, cR, cK, aW⟩ : G)) := ⟨f_Asker_log, _, _, fl_Asker.cl, ⟨a_Asker_log, i_Asker_log, k_Asker_log⟩, (ok_Asker_log (g := (⟨K, cE, cT, cN, cA, cS, cH, cR, cK, aW⟩ : G)) F_Asker_log T ), B_Asker_log⟩
  have C_played : Cal P w K mg base 11 "played" (sp_played (⟨K, cE, cT, cN, cA, cS, cH, cR, cK, aW⟩ : G)) := ⟨f_played, _, _, (ok_played (g := (⟨K, cE, cT, cN, cA, cS, cH, cR, cK, aW⟩ : G)) F_played T C_look_deeds C_Store C_Shelf C_Road C_Asker C_Asker_view C_word_of C_Asker_log), PySem.W.mg_of X G0 a_played, k_played, B_played⟩
  have C__law_one : Cal P w K mg base 12 "_law_one" (sp__law_one (⟨K, cE, cT, cN, cA, cS, cH, cR, cK, aW⟩ : G)) := ⟨f__law_one, _, _, (ok__law_one (g := (⟨K, cE, cT, cN, cA, cS, cH, cR, cK, aW⟩ : G)) F__law_one T C_read_diary C_diary_text C_played), PySem.W.mg_of X G0 a__law_one, k__law_one, B__law_one⟩
  have C__law_refusal : Cal P w K mg base 1 "_law_refusal" (sp__law_refusal (⟨K, cE, cT, cN, cA, cS, cH, cR, cK, aW⟩ : G)) := ⟨f__law_refusal, _, _, (ok__law_refusal (g := (⟨K, cE, cT, cN, cA, cS, cH, cR, cK, aW⟩ : G)) F__law_refusal T ), PySem.W.mg_of X G0 a__law_refusal, k__law_refusal, B__law_refusal⟩
  have C__law_told : Cal P w K mg base 13 "_law_told" (sp__law_told (⟨K, cE, cT, cN, cA, cS, cH, cR, cK, aW⟩ : G)) := ⟨f__law_told, _, _, (ok__law_told (g := (⟨K, cE, cT, cN, cA, cS, cH, cR, cK, aW⟩ : G)) F__law_told T C__law_one C__law_refusal), PySem.W.mg_of X G0 a__law_told, k__law_told, B__law_told⟩
  exact ok_law (g := (⟨K, cE, cT, cN, cA, cS, cH, cR, cK, aW⟩ : G)) F_law T C__law_draw C__law_deed C__law_text C__law_told C__law_pick
end DL
open PySem PySem.W PyProof.Rows
set_option pp.maxSteps 300 in
set_option maxHeartbeats 0 in
theorem PySem.Challenge.cw_typeasks_k51_whole_diary_texts_holds : PySem.Challenge.rw_typeasks_k51_whole_diary_texts.Holds := by
  w_on; o_law; k_head; (case hw => w_witness2)
  k_fill
  refine L2.walk_of (l := PySem.Challenge.rw_typeasks_k51_whole_diary_texts) (n := 63) (k := 14) (x := "_law_script") (CX := fun w => L2.CX (PySem.Challenge.rw_typeasks_k51_whole_diary_texts).prog w) (sp := fun w => DL.sp_lawK _) rfl (by decide) rfl ⟨rfl, by decide, by decide⟩ (fun w h Y => PySem.W.kIn_of Y) ?F (fun w H a ns hl _ hS => DL.law_start hS) (fun w H s e s' c => DL.law_none c)
  case F =>
    intro w mg fa h KX G hmg
    refine' DL.all_mk KX G hmg ?a_BadText ?ex_BadText ?kp_BadText ?sb_BadText ?ty_BadText ?hg_BadText ?hk_BadText ?hd_BadText ?ha_BadText ?hm_BadText ?a_BadNumber ?ex_BadNumber ?kp_BadNumber ?sb_BadNumber ?ty_BadNumber ?hg_BadNumber ?hk_BadNumber ?hd_BadNumber ?ha_BadNumber ?hm_BadNumber ?a_BadAsk ?ex_BadAsk ?kp_BadAsk ?sb_BadAsk ?ty_BadAsk ?hg_BadAsk ?hk_BadAsk ?hd_BadAsk ?ha_BadAsk ?hm_BadAsk ?a_AskError ?ex_AskError ?kp_AskError ?sb_AskError ?ty_AskError ?hg_AskError ?hk_AskError ?hd_AskError ?ha_AskError ?hm_AskError ?hn ?ht ?mT ?kTT ?kTN ?kTA ?vT ?mN ?kNT ?kNN ?kNA ?vN ?mA ?kAT ?kAN ?kAA ?vA ?sT ?sN ?sA ?z_len ?z_ord ?z_all ?z_sorted ?z_list ?z_range ?z_max ?z_str ?z_int ?z_isinstance ?z_ValueError ?n_MOST_ROW ?n_MOST_TYPED ?n_MOST_ANSWER ?n_MOST_ROWS ?n_MOST_PAUSE ?n_MOST_ASKS ?n_MOST_PATIENCE ?n_TRIES ?n_MOST_TICKS ?n_MOST_DELAYS ?n_MOST_DELAY ?n_MOST_KEPT ?n_MOST_TERM ?n_WORDS ?l_WORDS ?kk_WORDS ?lo_WORDS ?n_MOST_TICK ?n_MOST_SIGNS ?n_FIGURES ?g_Store ?pg_Store ?pd_Store ?po_Store ?ps_Store ?pm_Store ?pk_Store ?f_Store_rows ?g_Asker ?pg_Asker ?pd_Asker ?po_Asker ?ps_Asker ?pm_Asker ?pk_Asker ?f_Asker_store ?f_Asker_road ?f_Asker_shelf ?f_Asker_rows_most ?f_Asker_pause ?f_Asker_asks_most ?f_Asker_patience ?f_Asker_time ?f_Asker_now ?f_Asker_typed_at ?f_Asker_is_due ?f_Asker_tries ?f_Asker_asked ?f_Asker_flying ?f_Asker_shown ?f_Asker_rows ?g_Road ?pg_Road ?pd_Road ?po_Road ?ps_Road ?pm_Road ?pk_Road ?f_Road_delays ?f_Road_sent ?f_Road_under_way ?g_Shelf ?pg_Shelf ?pd_Shelf ?po_Shelf ?ps_Shelf ?pm_Shelf ?pk_Shelf ?f_Shelf_most ?f_Shelf_term ?f_Shelf_kept ?a__law_cell ?l__law_cell ?c__law_cell ?k__law_cell ?a__law_mix ?l__law_mix ?c__law_mix ?k__law_mix ?a__law_draw ?l__law_draw ?c__law_draw ?k__law_draw ?a__law_pick ?l__law_pick ?c__law_pick ?k__law_pick ?a__law_query ?l__law_query ?c__law_query ?k__law_query ?a__law_row ?l__law_row ?c__law_row ?k__law_row ?a__law_deed ?l__law_deed ?c__law_deed ?k__law_deed ?a__law_text ?l__law_text ?c__law_text ?k__law_text ?a_look_text ?l_look_text ?c_look_text ?k_look_text ?a_deed_in ?l_deed_in ?c_deed_in ?k_deed_in ?a_row_of ?l_row_of ?c_row_of ?k_row_of ?a_read_diary ?l_read_diary ?c_read_diary ?k_read_diary ?a_look_deed ?l_look_deed ?c_look_deed ?k_look_deed ?a_look_deeds ?l_look_deeds ?c_look_deeds ?k_look_deeds ?a_diary_text ?l_diary_text ?c_diary_text ?k_diary_text ?a_Store___init__ ?i_Store___init__ ?l_Store___init__ ?c_Store___init__ ?k_Store___init__ ?a_Shelf___init__ ?i_Shelf___init__ ?l_Shelf___init__ ?c_Shelf___init__ ?k_Shelf___init__ ?a_Road___init__ ?i_Road___init__ ?l_Road___init__ ?c_Road___init__ ?k_Road___init__ ?a_look_many ?l_look_many ?c_look_many ?k_look_many ?a_Asker___init__ ?i_Asker___init__ ?l_Asker___init__ ?c_Asker___init__ ?k_Asker___init__ ?a_folded ?l_folded ?c_folded ?k_folded ?a_Asker_is_fresh ?i_Asker_is_fresh ?l_Asker_is_fresh ?c_Asker_is_fresh ?k_Asker_is_fresh ?a_Asker_view ?i_Asker_view ?l_Asker_view ?c_Asker_view ?k_Asker_view ?a_Asker_drop_other ?i_Asker_drop_other ?l_Asker_drop_other ?c_Asker_drop_other ?k_Asker_drop_other ?a_Shelf_source ?i_Shelf_source ?l_Shelf_source ?c_Shelf_source ?k_Shelf_source ?a_rank ?l_rank ?c_rank ?k_rank ?a_best ?l_best ?c_best ?k_best ?a_Shelf_get ?i_Shelf_get ?l_Shelf_get ?c_Shelf_get ?k_Shelf_get ?a_Asker_show ?i_Asker_show ?l_Asker_show ?c_Asker_show ?k_Asker_show ?a_Asker_look_near ?i_Asker_look_near ?l_Asker_look_near ?c_Asker_look_near ?k_Asker_look_near ?a_Road_send ?i_Road_send ?l_Road_send ?c_Road_send ?k_Road_send ?a_Asker_ask_if_due ?i_Asker_ask_if_due ?l_Asker_ask_if_due ?c_Asker_ask_if_due ?k_Asker_ask_if_due ?a_Asker_put ?i_Asker_put ?l_Asker_put ?c_Asker_put ?k_Asker_put ?a_Asker_key ?i_Asker_key ?l_Asker_key ?c_Asker_key ?k_Asker_key ?a_Asker_rub ?i_Asker_rub ?l_Asker_rub ?c_Asker_rub ?k_Asker_rub ?a_Road_due ?i_Road_due ?l_Road_due ?c_Road_due ?k_Road_due ?a_Store_answer ?i_Store_answer ?l_Store_answer ?c_Store_answer ?k_Store_answer ?a_Shelf_put ?i_Shelf_put ?l_Shelf_put ?c_Shelf_put ?k_Shelf_put ?a_Asker_try_again ?i_Asker_try_again ?l_Asker_try_again ?c_Asker_try_again ?k_Asker_try_again ?a_Asker_step ?i_Asker_step ?l_Asker_step ?c_Asker_step ?k_Asker_step ?a_Asker_tick ?i_Asker_tick ?l_Asker_tick ?c_Asker_tick ?k_Asker_tick ?a_Shelf_clear ?i_Shelf_clear ?l_Shelf_clear ?c_Shelf_clear ?k_Shelf_clear ?a_Asker_again ?i_Asker_again ?l_Asker_again ?c_Asker_again ?k_Asker_again ?a_Store_add ?i_Store_add ?l_Store_add ?c_Store_add ?k_Store_add ?a_Store_remove ?i_Store_remove ?l_Store_remove ?c_Store_remove ?k_Store_remove ?a_do ?l_do ?c_do ?k_do ?a_word_of ?l_word_of ?c_word_of ?k_word_of ?a_Asker_log ?i_Asker_log ?l_Asker_log ?c_Asker_log ?k_Asker_log ?a_played ?l_played ?c_played ?k_played ?a__law_one ?l__law_one ?c__law_one ?k__law_one ?a__law_refusal ?l__law_refusal ?c__law_refusal ?k__law_refusal ?a__law_told ?l__law_told ?c__law_told ?k__law_told ?a_law ?l_law ?c_law ?k_law
    (case a_BadText => k_is)
    (case ex_BadText => k_exc)
    (case kp_BadText => k_is)
    (case sb_BadText => k_is)
    (case ty_BadText => k_is)
    (case hg_BadText => k_is)
    (case hk_BadText => k_is)
    (case hd_BadText => k_is)
    (case ha_BadText => k_is)
    (case hm_BadText => k_is)
    (case a_BadNumber => k_is)
    (case ex_BadNumber => k_exc)
    (case kp_BadNumber => k_is)
    (case sb_BadNumber => k_is)
    (case ty_BadNumber => k_is)
    (case hg_BadNumber => k_is)
    (case hk_BadNumber => k_is)
    (case hd_BadNumber => k_is)
    (case ha_BadNumber => k_is)
    (case hm_BadNumber => k_is)
    (case a_BadAsk => k_is)
    (case ex_BadAsk => k_exc)
    (case kp_BadAsk => k_is)
    (case sb_BadAsk => k_is)
    (case ty_BadAsk => k_is)
    (case hg_BadAsk => k_is)
    (case hk_BadAsk => k_is)
    (case hd_BadAsk => k_is)
    (case ha_BadAsk => k_is)
    (case hm_BadAsk => k_is)
    (case a_AskError => k_is)
    (case ex_AskError => k_exc)
    (case kp_AskError => k_is)
    (case sb_AskError => k_is)
    (case ty_AskError => k_is)
    (case hg_AskError => k_is)
    (case hk_AskError => k_is)
    (case hd_AskError => k_is)
    (case ha_AskError => k_is)
    (case hm_AskError => k_is)
    (case hn => k_is)
    (case ht => k_is)
    (case mT => first | rfl | k_is)
    (case kTT => kit_is)
    (case kTN => kit_is)
    (case kTA => kit_is)
    (case vT => kit_is)
    (case mN => first | rfl | k_is)
    (case kNT => kit_is)
    (case kNN => kit_is)
    (case kNA => kit_is)
    (case vN => kit_is)
    (case mA => first | rfl | k_is)
    (case kAT => kit_is)
    (case kAN => kit_is)
    (case kAA => kit_is)
    (case vA => kit_is)
    (case sT => first | rfl | k_is)
    (case sN => first | rfl | k_is)
    (case sA => first | rfl | k_is)
    (case z_len => k_is)
    (case z_ord => k_is)
    (case z_all => k_is)
    (case z_sorted => k_is)
    (case z_list => k_is)
    (case z_range => k_is)
    (case z_max => k_is)
    (case z_str => k_is)
    (case z_int => k_is)
    (case z_isinstance => k_is)
    (case z_ValueError => k_is)
    (case n_MOST_ROW => k_is)
    (case n_MOST_TYPED => k_is)
    (case n_MOST_ANSWER => k_is)
    (case n_MOST_ROWS => k_is)
    (case n_MOST_PAUSE => k_is)
    (case n_MOST_ASKS => k_is)
    (case n_MOST_PATIENCE => k_is)
    (case n_TRIES => k_is)
    (case n_MOST_TICKS => k_is)
    (case n_MOST_DELAYS => k_is)
    (case n_MOST_DELAY => k_is)
    (case n_MOST_KEPT => k_is)
    (case n_MOST_TERM => k_is)
    (case n_WORDS => k_is)
    (case l_WORDS => k_is)
    (case kk_WORDS => k_keys)
    (case lo_WORDS => decide)
    (case n_MOST_TICK => k_is)
    (case n_MOST_SIGNS => k_is)
    (case n_FIGURES => k_is)
    (case g_Store => k_is)
    (case pg_Store => k_is)
    (case pd_Store => k_is)
    (case po_Store => k_is)
    (case ps_Store => k_is)
    (case pm_Store => k_is)
    (case pk_Store => k_is)
    (case f_Store_rows => k_is)
    (case g_Asker => k_is)
    (case pg_Asker => k_is)
    (case pd_Asker => k_is)
    (case po_Asker => k_is)
    (case ps_Asker => k_is)
    (case pm_Asker => k_is)
    (case pk_Asker => k_is)
    (case f_Asker_store => k_is)
    (case f_Asker_road => k_is)
    (case f_Asker_shelf => k_is)
    (case f_Asker_rows_most => k_is)
    (case f_Asker_pause => k_is)
    (case f_Asker_asks_most => k_is)
    (case f_Asker_patience => k_is)
    (case f_Asker_time => k_is)
    (case f_Asker_now => k_is)
    (case f_Asker_typed_at => k_is)
    (case f_Asker_is_due => k_is)
    (case f_Asker_tries => k_is)
    (case f_Asker_asked => k_is)
    (case f_Asker_flying => k_is)
    (case f_Asker_shown => k_is)
    (case f_Asker_rows => k_is)
    (case g_Road => k_is)
    (case pg_Road => k_is)
    (case pd_Road => k_is)
    (case po_Road => k_is)
    (case ps_Road => k_is)
    (case pm_Road => k_is)
    (case pk_Road => k_is)
    (case f_Road_delays => k_is)
    (case f_Road_sent => k_is)
    (case f_Road_under_way => k_is)
    (case g_Shelf => k_is)
    (case pg_Shelf => k_is)
    (case pd_Shelf => k_is)
    (case po_Shelf => k_is)
    (case ps_Shelf => k_is)
    (case pm_Shelf => k_is)
    (case pk_Shelf => k_is)
    (case f_Shelf_most => k_is)
    (case f_Shelf_term => k_is)
    (case f_Shelf_kept => k_is)
    (case a__law_cell => k_is)
    (case l__law_cell => k_is)
    (case c__law_cell => k_is)
    (case k__law_cell => k_is)
    (case a__law_mix => k_is)
    (case l__law_mix => k_is)
    (case c__law_mix => k_is)
    (case k__law_mix => k_is)
    (case a__law_draw => k_is)
    (case l__law_draw => k_is)
    (case c__law_draw => k_is)
    (case k__law_draw => k_is)
    (case a__law_pick => k_is)
    (case l__law_pick => k_is)
    (case c__law_pick => k_is)
    (case k__law_pick => k_is)
    (case a__law_query => k_is)
    (case l__law_query => k_is)
    (case c__law_query => k_is)
    (case k__law_query => k_is)
    (case a__law_row => k_is)
    (case l__law_row => k_is)
    (case c__law_row => k_is)
    (case k__law_row => k_is)
    (case a__law_deed => k_is)
    (case l__law_deed => k_is)
    (case c__law_deed => k_is)
    (case k__law_deed => k_is)
    (case a__law_text => k_is)
    (case l__law_text => k_is)
    (case c__law_text => k_is)
    (case k__law_text => k_is)
    (case a_look_text => k_is)
    (case l_look_text => k_is)
    (case c_look_text => k_is)
    (case k_look_text => k_is)
    (case a_deed_in => k_is)
    (case l_deed_in => k_is)
    (case c_deed_in => k_is)
    (case k_deed_in => k_is)
    (case a_row_of => k_is)
    (case l_row_of => k_is)
    (case c_row_of => k_is)
    (case k_row_of => k_is)
    (case a_read_diary => k_is)
    (case l_read_diary => k_is)
    (case c_read_diary => k_is)
    (case k_read_diary => k_is)
    (case a_look_deed => k_is)
    (case l_look_deed => k_is)
    (case c_look_deed => k_is)
    (case k_look_deed => k_is)
    (case a_look_deeds => k_is)
    (case l_look_deeds => k_is)
    (case c_look_deeds => k_is)
    (case k_look_deeds => k_is)
    (case a_diary_text => k_is)
    (case l_diary_text => k_is)
    (case c_diary_text => k_is)
    (case k_diary_text => k_is)
    (case a_Store___init__ => k_is)
    (case i_Store___init__ => k_is)
    (case l_Store___init__ => k_is)
    (case c_Store___init__ => k_is)
    (case k_Store___init__ => k_is)
    (case a_Shelf___init__ => k_is)
    (case i_Shelf___init__ => k_is)
    (case l_Shelf___init__ => k_is)
    (case c_Shelf___init__ => k_is)
    (case k_Shelf___init__ => k_is)
    (case a_Road___init__ => k_is)
    (case i_Road___init__ => k_is)
    (case l_Road___init__ => k_is)
    (case c_Road___init__ => k_is)
    (case k_Road___init__ => k_is)
    (case a_look_many => k_is)
    (case l_look_many => k_is)
    (case c_look_many => k_is)
    (case k_look_many => k_is)
    (case a_Asker___init__ => k_is)
    (case i_Asker___init__ => k_is)
    (case l_Asker___init__ => k_is)
    (case c_Asker___init__ => k_is)
    (case k_Asker___init__ => k_is)
    (case a_folded => k_is)
    (case l_folded => k_is)
    (case c_folded => k_is)
    (case k_folded => k_is)
    (case a_Asker_is_fresh => k_is)
    (case i_Asker_is_fresh => k_is)
    (case l_Asker_is_fresh => k_is)
    (case c_Asker_is_fresh => k_is)
    (case k_Asker_is_fresh => k_is)
    (case a_Asker_view => k_is)
    (case i_Asker_view => k_is)
    (case l_Asker_view => k_is)
    (case c_Asker_view => k_is)
    (case k_Asker_view => k_is)
    (case a_Asker_drop_other => k_is)
    (case i_Asker_drop_other => k_is)
    (case l_Asker_drop_other => k_is)
    (case c_Asker_drop_other => k_is)
    (case k_Asker_drop_other => k_is)
    (case a_Shelf_source => k_is)
    (case i_Shelf_source => k_is)
    (case l_Shelf_source => k_is)
    (case c_Shelf_source => k_is)
    (case k_Shelf_source => k_is)
    (case a_rank => k_is)
    (case l_rank => k_is)
    (case c_rank => k_is)
    (case k_rank => k_is)
    (case a_best => k_is)
    (case l_best => k_is)
    (case c_best => k_is)
    (case k_best => k_is)
    (case a_Shelf_get => k_is)
    (case i_Shelf_get => k_is)
    (case l_Shelf_get => k_is)
    (case c_Shelf_get => k_is)
    (case k_Shelf_get => k_is)
    (case a_Asker_show => k_is)
    (case i_Asker_show => k_is)
    (case l_Asker_show => k_is)
    (case c_Asker_show => k_is)
    (case k_Asker_show => k_is)
    (case a_Asker_look_near => k_is)
    (case i_Asker_look_near => k_is)
    (case l_Asker_look_near => k_is)
    (case c_Asker_look_near => k_is)
    (case k_Asker_look_near => k_is)
    (case a_Road_send => k_is)
    (case i_Road_send => k_is)
    (case l_Road_send => k_is)
    (case c_Road_send => k_is)
    (case k_Road_send => k_is)
    (case a_Asker_ask_if_due => k_is)
    (case i_Asker_ask_if_due => k_is)
    (case l_Asker_ask_if_due => k_is)
    (case c_Asker_ask_if_due => k_is)
    (case k_Asker_ask_if_due => k_is)
    (case a_Asker_put => k_is)
    (case i_Asker_put => k_is)
    (case l_Asker_put => k_is)
    (case c_Asker_put => k_is)
    (case k_Asker_put => k_is)
    (case a_Asker_key => k_is)
    (case i_Asker_key => k_is)
    (case l_Asker_key => k_is)
    (case c_Asker_key => k_is)
    (case k_Asker_key => k_is)
    (case a_Asker_rub => k_is)
    (case i_Asker_rub => k_is)
    (case l_Asker_rub => k_is)
    (case c_Asker_rub => k_is)
    (case k_Asker_rub => k_is)
    (case a_Road_due => k_is)
    (case i_Road_due => k_is)
    (case l_Road_due => k_is)
    (case c_Road_due => k_is)
    (case k_Road_due => k_is)
    (case a_Store_answer => k_is)
    (case i_Store_answer => k_is)
    (case l_Store_answer => k_is)
    (case c_Store_answer => k_is)
    (case k_Store_answer => k_is)
    (case a_Shelf_put => k_is)
    (case i_Shelf_put => k_is)
    (case l_Shelf_put => k_is)
    (case c_Shelf_put => k_is)
    (case k_Shelf_put => k_is)
    (case a_Asker_try_again => k_is)
    (case i_Asker_try_again => k_is)
    (case l_Asker_try_again => k_is)
    (case c_Asker_try_again => k_is)
    (case k_Asker_try_again => k_is)
    (case a_Asker_step => k_is)
    (case i_Asker_step => k_is)
    (case l_Asker_step => k_is)
    (case c_Asker_step => k_is)
    (case k_Asker_step => k_is)
    (case a_Asker_tick => k_is)
    (case i_Asker_tick => k_is)
    (case l_Asker_tick => k_is)
    (case c_Asker_tick => k_is)
    (case k_Asker_tick => k_is)
    (case a_Shelf_clear => k_is)
    (case i_Shelf_clear => k_is)
    (case l_Shelf_clear => k_is)
    (case c_Shelf_clear => k_is)
    (case k_Shelf_clear => k_is)
    (case a_Asker_again => k_is)
    (case i_Asker_again => k_is)
    (case l_Asker_again => k_is)
    (case c_Asker_again => k_is)
    (case k_Asker_again => k_is)
    (case a_Store_add => k_is)
    (case i_Store_add => k_is)
    (case l_Store_add => k_is)
    (case c_Store_add => k_is)
    (case k_Store_add => k_is)
    (case a_Store_remove => k_is)
    (case i_Store_remove => k_is)
    (case l_Store_remove => k_is)
    (case c_Store_remove => k_is)
    (case k_Store_remove => k_is)
    (case a_do => k_is)
    (case l_do => k_is)
    (case c_do => k_is)
    (case k_do => k_is)
    (case a_word_of => k_is)
    (case l_word_of => k_is)
    (case c_word_of => k_is)
    (case k_word_of => k_is)
    (case a_Asker_log => k_is)
    (case i_Asker_log => k_is)
    (case l_Asker_log => k_is)
    (case c_Asker_log => k_is)
    (case k_Asker_log => k_is)
    (case a_played => k_is)
    (case l_played => k_is)
    (case c_played => k_is)
    (case k_played => k_is)
    (case a__law_one => k_is)
    (case l__law_one => k_is)
    (case c__law_one => k_is)
    (case k__law_one => k_is)
    (case a__law_refusal => k_is)
    (case l__law_refusal => k_is)
    (case c__law_refusal => k_is)
    (case k__law_refusal => k_is)
    (case a__law_told => k_is)
    (case l__law_told => k_is)
    (case c__law_told => k_is)
    (case k__law_told => k_is)
    (case a_law => k_is)
    (case l_law => k_is)
    (case c_law => k_is)
    (case k_law => k_is)
