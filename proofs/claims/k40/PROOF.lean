import PyProof.Rows.All
import Wide.All
import OpenK.AllK
import Wide.FinOn
import HandS.ForMost
import HandS.ForExc
import HandS.Codes
import HandS.CallSlots
import HandS.ExcIs
import HandS.SetFor
import KE.SortData
import HandS.Style
import HandS.RaiseMore
import KE.DataMinMax
import KE.KDictList
import KE.KDictSum
import HandS.Text
import KE.RegKIsAll
import PySem.Challenge.RW_typeasks_k40_whole_studied
set_option Elab.async false
set_option linter.all false
set_option maxRecDepth 100000
set_option maxHeartbeats 4000000
/-! DL: values as data (D), mutable cells (Mh), readings judged over them. -/
namespace DL
open PySem PySem.Spec PyProof.Rows L2
open SX (S)

/-- I is known to I' -/
def Kn (I I' : Hp) : Prop := ∀ a o, I a = some o → I' a = some o
theorem Kn.refl (I : Hp) : Kn I I := fun _ _ h => h
theorem Kn.trans {I J K : Hp} (a : Kn I J) (b : Kn J K) : Kn I K := fun x o h => b x o (a x o h)
/-- data: what never changes is a tree; what may change is named by its address -/
inductive D where
  | non | bl (b : Bool) | int (i : Int) | str (s : List Nat) | tup (xs : List D) | lst (xs : List D) | ref (a : Addr) | exc (c : Addr) | ty (n : String) | opq (P : V → Hp → Prop)

/-- an own exception of the class at c, held as a value -/
def ExV (c a : Addr) : HO := .ext fun h => ∃ oe : Obj, h.get? a = some oe ∧ oe.cls = .ref c ∧ oe.dict = none ∧ ∃ vs, oe.data = .fields vs

mutual
inductive Rp (I : Hp) : V → D → Prop
  | non : Rp I .non .non
  | bl (b : Bool) : Rp I (.bl b) (.bl b)
  | int (i : Int) : Rp I (.int i) (.int i)
  | str (s : List Nat) : Rp I (.str (S s)) (.str s)
  | tup {a : Addr} {vs : List V} {ds : List D} : I a = some (.tup vs) → RpL I vs ds → Rp I (.ref a) (.tup ds)
  | lst {a : Addr} {vs : List V} {ds : List D} : I a = some (.lst vs) → RpL I vs ds → Rp I (.ref a) (.lst ds)
  | ref (a : Addr) : Rp I (.ref a) (.ref a)
  | exc {a c : Addr} : I a = some (ExV c a) → Rp I (.ref a) (.exc c)
  | ty (n : String) : Rp I (.ty n) (.ty n)
  | opq {P : V → Hp → Prop} {v : V} : P v I → (∀ I I', Kn I I' → P v I → P v I') → Rp I v (.opq P)
inductive RpL (I : Hp) : List V → List D → Prop
  | nil : RpL I [] []
  | cons {v : V} {vs : List V} {d : D} {ds : List D} : Rp I v d → RpL I vs ds → RpL I (v :: vs) (d :: ds)
end

mutual
theorem Rp.mono {I I' : Hp} (k : Kn I I') : ∀ {v : V} {d : D}, Rp I v d → Rp I' v d
  | _, _, .non => .non
  | _, _, .bl b => .bl b
  | _, _, .int i => .int i
  | _, _, .str s => .str s
  | _, _, .tup h hs => .tup (k _ _ h) (RpL.mono k hs)
  | _, _, .lst h hs => .lst (k _ _ h) (RpL.mono k hs)
  | _, _, .ref a => .ref a
  | _, _, .exc h => .exc (k _ _ h)
  | _, _, .ty n => .ty n
  | _, _, .opq h m => .opq (m _ _ k h) m
theorem RpL.mono {I I' : Hp} (k : Kn I I') : ∀ {vs : List V} {ds : List D}, RpL I vs ds → RpL I' vs ds
  | _, _, .nil => .nil
  | _, _, .cons h hs => .cons (Rp.mono k h) (RpL.mono k hs)
end
theorem RpL.length {I : Hp} : ∀ {vs : List V} {ds : List D}, RpL I vs ds → vs.length = ds.length
  | _, _, .nil => rfl
  | _, _, .cons _ h => congrArg (· + 1) h.length
theorem RpL.get {I : Hp} : ∀ {vs : List V} {ds : List D} {i : Nat} {v : V}, RpL I vs ds → vs[i]? = some v → ∃ d, ds[i]? = some d ∧ Rp I v d
  | _, _, _, _, .nil, e => by simp at e
  | _, _, 0, _, .cons r _, e => by simp at e; subst e; exact ⟨_, rfl, r⟩
  | _, _, i + 1, v, .cons _ t, e => by
    obtain ⟨d, h1, h2⟩ := RpL.get (i := i) (v := v) t (by simpa using e)
    exact ⟨d, by simpa using h1, h2⟩
theorem RpL.getD {I : Hp} : ∀ {vs : List V} {ds : List D} {i : Nat} {d : D}, RpL I vs ds → ds[i]? = some d → ∃ v, vs[i]? = some v ∧ Rp I v d
  | _, _, _, _, .nil, e => by simp at e
  | _, _, 0, _, .cons r _, e => by simp at e; subst e; exact ⟨_, rfl, r⟩
  | _, _, i + 1, d, .cons _ t, e => by
    obtain ⟨v, h1, h2⟩ := RpL.getD (i := i) (d := d) t (by simpa using e)
    exact ⟨v, by simpa using h1, h2⟩
theorem RpL.append {I : Hp} : ∀ {vs ws : List V} {ds es : List D}, RpL I vs ds → RpL I ws es → RpL I (vs ++ ws) (ds ++ es)
  | _, _, _, _, .nil, s => s
  | _, _, _, _, .cons r t, s => .cons r (RpL.append t s)
theorem RpL.take {I : Hp} : ∀ {vs : List V} {ds : List D} (n : Nat), RpL I vs ds → RpL I (vs.take n) (ds.take n)
  | _, _, 0, _ => .nil
  | _, _, _ + 1, .nil => .nil
  | _, _, n + 1, .cons r t => .cons r (RpL.take n t)
theorem RpL.drop {I : Hp} : ∀ {vs : List V} {ds : List D} (n : Nat), RpL I vs ds → RpL I (vs.drop n) (ds.drop n)
  | _, _, 0, r => r
  | _, _, _ + 1, .nil => .nil
  | _, _, n + 1, .cons _ t => RpL.drop n t
theorem RpL.set {I : Hp} {v : V} {d : D} (r : Rp I v d) : ∀ {vs : List V} {ds : List D} (i : Nat), RpL I vs ds → RpL I (vs.set i v) (ds.set i d)
  | _, _, _, .nil => .nil
  | _, _, 0, .cons _ t => .cons r t
  | _, _, i + 1, .cons q t => .cons q (RpL.set r i t)
theorem RpL.strs {I : Hp} : ∀ (xs : List (List Nat)), RpL I (xs.map fun x => V.str (S x)) (xs.map D.str)
  | [] => .nil
  | x :: xs => .cons (.str x) (RpL.strs xs)
theorem RpL.ints {I : Hp} : ∀ (xs : List Int), RpL I (xs.map V.int) (xs.map D.int)
  | [] => .nil
  | x :: xs => .cons (.int x) (RpL.ints xs)
theorem RpL.to_strs {I : Hp} : ∀ {vs : List V} {xs : List (List Nat)}, RpL I vs (xs.map D.str) → vs = xs.map fun x => V.str (S x)
  | _, [], h => by cases h; rfl
  | _, x :: xs, h => by
    cases h with
    | cons h1 h2 =>
      cases h1
      rw [RpL.to_strs h2]
      rfl
theorem RpL.to_ints {I : Hp} : ∀ {vs : List V} {xs : List Int}, RpL I vs (xs.map D.int) → vs = xs.map V.int
  | _, [], h => by cases h; rfl
  | _, x :: xs, h => by
    cases h with
    | cons h1 h2 =>
      cases h1
      rw [RpL.to_ints h2]
      rfl
theorem RpL.to_bls {I : Hp} : ∀ {vs : List V} {xs : List Bool}, RpL I vs (xs.map D.bl) → vs = xs.map V.bl
  | _, [], h => by cases h; rfl
  | _, x :: xs, h => by
    cases h with
    | cons h1 h2 =>
      cases h1
      rw [RpL.to_bls h2]
      rfl

/-- fields, entries -/
def RpF {κ : Type} (I : Hp) : List (κ × V) → List (κ × D) → Prop := Paired fun p q => p.1 = q.1 ∧ Rp I p.2 q.2
theorem RpF.mono {κ : Type} {I I' : Hp} (k : Kn I I') {vs : List (κ × V)} {ds : List (κ × D)} (h : RpF I vs ds) : RpF I' vs ds :=
  Paired.mapP h fun _ _ z => ⟨z.1, z.2.mono k⟩
theorem RpF.length {κ : Type} {I : Hp} {vs : List (κ × V)} {ds : List (κ × D)} (h : RpF I vs ds) : vs.length = ds.length := Paired.length h

/-- what may change: a list, an instance (its fields' names and values), a dict -/
inductive Cell where
  | lst (ds : List D) | ins (C : Addr) (ns : List Str) (ds : List D) | dic (kvs : List (Key × D))
abbrev Mh := Addr → Option Cell
def CellOk (I : Hp) : Cell → HO → Prop
  | .lst ds, o => ∃ vs, o = .lst vs ∧ RpL I vs ds
  | .ins C ns ds, o => ∃ dx vs, o = .ins C dx (ns.zip vs) ∧ RpL I vs ds ∧ ns.length = ds.length
  | .dic kvs, o => ∃ vs, o = .dK vs ∧ RpF I vs kvs
theorem CellOk.mono {I I' : Hp} (k : Kn I I') : ∀ {c : Cell} {o : HO}, CellOk I c o → CellOk I' c o
  | .lst _, _, ⟨vs, e, r⟩ => ⟨vs, e, r.mono k⟩
  | .ins _ _ _, _, ⟨dx, vs, e, r, n⟩ => ⟨dx, vs, e, r.mono k, n⟩
  | .dic _, _, ⟨vs, e, r⟩ => ⟨vs, e, r.mono k⟩

/-- what never changes -/
def imm (H : Hp) (M : Mh) : Hp := fun a => if (M a).isSome = true then none else H a
theorem imm_of {H : Hp} {M : Mh} {a : Addr} {o : HO} (h : H a = some o) (m : M a = none) : imm H M a = some o := by
  unfold imm
  rw [m]
  exact h
theorem of_imm {H : Hp} {M : Mh} {a : Addr} {o : HO} (h : imm H M a = some o) : H a = some o ∧ M a = none := by
  unfold imm at h
  cases e : M a with
  | none =>
    rw [e] at h
    exact ⟨h, rfl⟩
  | some c =>
    rw [e] at h
    cases h
structure Sta (M : Mh) (H : Hp) : Prop where
  cell : ∀ a c, M a = some c → ∃ o, H a = some o ∧ CellOk (imm H M) c o
theorem Sta.fresh {M : Mh} {H : Hp} (s : Sta M H) {a : Addr} (h : H a = none) : M a = none := by
  cases e : M a with
  | none => rfl
  | some c =>
    obtain ⟨o, q, _⟩ := s.cell a c e
    rw [h] at q
    cases q
/-- a step: what never changes stays -/
abbrev Stp (H : Hp) (M : Mh) (H' : Hp) (M' : Mh) : Prop := Kn (imm H M) (imm H' M')

abbrev upM (M : Mh) (a : Addr) (c : Cell) : Mh := fun b => if b = a then some c else M b
theorem upM_same {M : Mh} {a : Addr} {c : Cell} : upM M a c a = some c := if_pos rfl
theorem upM_ne {M : Mh} {a b : Addr} {c : Cell} (h : b ≠ a) : upM M a c b = M b := if_neg h
theorem upM_upM {M : Mh} {a : Addr} {c d : Cell} : upM (upM M a c) a d = upM M a d := by
  funext b
  by_cases h : b = a
  · rw [h, upM_same, upM_same]
  · rw [upM_ne h, upM_ne h, upM_ne h]
theorem upM_id {M : Mh} {a : Addr} {c : Cell} (h : M a = some c) : upM M a c = M := by
  funext b
  by_cases e : b = a
  · rw [e, upM_same, h]
  · rw [upM_ne e]
def deM (M : Mh) (a : Addr) : Mh := fun b => if b = a then none else M b
theorem deM_same {M : Mh} {a : Addr} : deM M a a = none := if_pos rfl
theorem deM_ne {M : Mh} {a b : Addr} (h : b ≠ a) : deM M a b = M b := if_neg h
theorem deM_upM {M : Mh} {a : Addr} {c : Cell} (h : M a = none) : deM (upM M a c) a = M := by
  funext b
  by_cases e : b = a
  · rw [e, deM_same, h]
  · rw [deM_ne e, upM_ne e]

/-! ### the heap's moves, by the cells -/
section
variable {M : Mh} {H : Hp} {a : Addr}
/-- a new thing that never changes -/
theorem Stp.new {o : HO} (h : H a = none) : Stp H M (upd H a o) M := fun b u q => by
  obtain ⟨q1, q2⟩ := of_imm q
  exact imm_of (by rw [upd_ne (ne_of_none q1 h)]; exact q1) q2
theorem Sta.new {o : HO} (s : Sta M H) (h : H a = none) : Sta M (upd H a o) := ⟨fun b c q => by
  obtain ⟨u, e, r⟩ := s.cell b c q
  exact ⟨u, by rw [upd_ne (ne_of_none e h)]; exact e, r.mono (Stp.new h)⟩⟩
theorem imm_new {o : HO} (s : Sta M H) (h : H a = none) : imm (upd H a o) M a = some o := imm_of upd_same (s.fresh h)
/-- a new cell -/
theorem Stp.newC {o : HO} {c : Cell} (h : H a = none) : Stp H M (upd H a o) (upM M a c) := fun b u q => by
  obtain ⟨q1, q2⟩ := of_imm q
  have n : b ≠ a := ne_of_none q1 h
  exact imm_of (by rw [upd_ne n]; exact q1) (by rw [upM_ne n]; exact q2)
theorem Sta.newC {o : HO} {c : Cell} (s : Sta M H) (h : H a = none) (ok : CellOk (imm H M) c o) : Sta (upM M a c) (upd H a o) := ⟨fun b d q => by
  by_cases e : b = a
  · subst e
    rw [upM_same] at q
    cases q
    exact ⟨o, upd_same, ok.mono (Stp.newC h)⟩
  · rw [upM_ne e] at q
    obtain ⟨u, e1, r⟩ := s.cell b d q
    exact ⟨u, by rw [upd_ne e]; exact e1, r.mono (Stp.newC h)⟩⟩
/-- a cell changes -/
theorem Stp.set {o : HO} {c c' : Cell} (m : M a = some c) : Stp H M (upd H a o) (upM M a c') := fun b u q => by
  obtain ⟨q1, q2⟩ := of_imm q
  have n : b ≠ a := fun z => by
    rw [z, m] at q2
    cases q2
  exact imm_of (by rw [upd_ne n]; exact q1) (by rw [upM_ne n]; exact q2)
theorem Sta.set {o : HO} {c c' : Cell} (s : Sta M H) (m : M a = some c) (ok : CellOk (imm H M) c' o) : Sta (upM M a c') (upd H a o) := ⟨fun b d q => by
  by_cases e : b = a
  · subst e
    rw [upM_same] at q
    cases q
    exact ⟨o, upd_same, ok.mono (Stp.set m)⟩
  · rw [upM_ne e] at q
    obtain ⟨u, e1, r⟩ := s.cell b d q
    exact ⟨u, by rw [upd_ne e]; exact e1, r.mono (Stp.set m)⟩⟩
/-- a cell that changes no more -/
theorem Stp.frz {c : Cell} (m : M a = some c) : Stp H M H (deM M a) := fun b u q => by
  obtain ⟨q1, q2⟩ := of_imm q
  have n : b ≠ a := fun z => by
    rw [z, m] at q2
    cases q2
  exact imm_of q1 (by rw [deM_ne n]; exact q2)
theorem Sta.frz {c : Cell} (s : Sta M H) (m : M a = some c) : Sta (deM M a) H := ⟨fun b d q => by
  have n : b ≠ a := fun z => by
    rw [z, deM_same] at q
    cases q
  rw [deM_ne n] at q
  obtain ⟨u, e1, r⟩ := s.cell b d q
  exact ⟨u, e1, r.mono (Stp.frz m)⟩⟩
theorem Rp.frz {ds : List D} (s : Sta M H) (m : M a = some (.lst ds)) : Rp (imm H (deM M a)) (.ref a) (.lst ds) := by
  obtain ⟨o, e, vs, rfl, r⟩ := s.cell a _ m
  exact .lst (imm_of e deM_same) (r.mono (Stp.frz m))
theorem Sta.lst {ds : List D} (s : Sta M H) (m : M a = some (.lst ds)) : ∃ vs, H a = some (.lst vs) ∧ RpL (imm H M) vs ds := by
  obtain ⟨o, e, vs, rfl, r⟩ := s.cell a _ m
  exact ⟨vs, e, r⟩
theorem Sta.ins {C : Addr} {ns : List Str} {ds : List D} (s : Sta M H) (m : M a = some (.ins C ns ds)) : ∃ dx vs, H a = some (.ins C dx (ns.zip vs)) ∧ RpL (imm H M) vs ds ∧ ns.length = ds.length := by
  obtain ⟨o, e, dx, vs, rfl, r, n⟩ := s.cell a _ m
  exact ⟨dx, vs, e, r, n⟩
theorem Sta.dic {kvs : List (Key × D)} (s : Sta M H) (m : M a = some (.dic kvs)) : ∃ vs, H a = some (.dK vs) ∧ RpF (imm H M) vs kvs := by
  obtain ⟨o, e, vs, rfl, r⟩ := s.cell a _ m
  exact ⟨vs, e, r⟩
end

/-! ### slots -/
abbrev En := List (Option D)
def RpO (I : Hp) : Option V → Option D → Prop
  | some v, some d => Rp I v d
  | _, none => True
  | none, some _ => False
abbrev RpE (I : Hp) : L2.St → En → Prop := Paired (RpO I)
theorem RpO.mono {I I' : Hp} (k : Kn I I') : ∀ {v : Option V} {d : Option D}, RpO I v d → RpO I' v d
  | some _, some _, h => Rp.mono k h
  | some _, none, _ => trivial
  | none, none, _ => trivial
  | none, some _, h => h
theorem RpE.mono {I I' : Hp} (k : Kn I I') {σ : L2.St} {ρ : En} (h : RpE I σ ρ) : RpE I' σ ρ := Paired.mapP h fun _ _ z => RpO.mono k z
theorem RpE.get {I : Hp} : ∀ {σ : L2.St} {ρ : En} {i : Nat} {d : D}, RpE I σ ρ → ρ[i]? = some (some d) → ∃ v, σ[i]? = some (some v) ∧ Rp I v d
  | _, _, _, _, .nil, e => by simp at e
  | _, _, 0, d, .cons (a := v) r _, e => by
    simp at e
    subst e
    cases v with
    | none => exact (show False from r).elim
    | some v => exact ⟨v, rfl, r⟩
  | _, _, i + 1, d, .cons _ t, e => by
    obtain ⟨v, h1, h2⟩ := RpE.get (i := i) (d := d) t (by simpa using e)
    exact ⟨v, by simpa using h1, h2⟩
theorem RpE.set {I : Hp} {v : Option V} {d : Option D} (r : RpO I v d) : ∀ {σ : L2.St} {ρ : En} (i : Nat), RpE I σ ρ → RpE I (σ.set i v) (ρ.set i d)
  | _, _, _, .nil => .nil
  | _, _, 0, .cons _ t => .cons r t
  | _, _, i + 1, .cons q t => .cons q (RpE.set r i t)
theorem RpE.start {I : Hp} : ∀ {vs : List V} {ds : List D} (n : Nat), RpL I vs ds → RpE I (vs.map some ++ List.replicate n none) (ds.map some ++ List.replicate n none)
  | _, _, 0, .nil => .nil
  | _, _, n + 1, .nil => .cons trivial (RpE.start (vs := []) (ds := []) n .nil)
  | _, _, n, .cons r t => .cons r (RpE.start n t)

/-! ### what follows, by data -/
abbrev XD := Addr → En → Mh → Prop
def Pe (H : Hp) (M : Mh) (Q : D → Mh → Prop) (k : VK) : Prop := ∀ v d H' M', Q d M' → Sta M' H' → Stp H M H' M' → Rp (imm H' M') v d → k v H'
def Pt (H : Hp) (M : Mh) (Q : Bool → Mh → Prop) (k : Bool → Hp → Prop) : Prop := ∀ b H' M', Q b M' → Sta M' H' → Stp H M H' M' → k b H'
def Pa (H : Hp) (M : Mh) (Q : List D → Mh → Prop) (k : List V → Hp → Prop) : Prop := ∀ vs ds H' M', Q ds M' → Sta M' H' → Stp H M H' M' → RpL (imm H' M') vs ds → k vs H'
def Pn (H : Hp) (M : Mh) (Q : En → Mh → Prop) (k : L2.St → Hp → Prop) : Prop := ∀ σ ρ H' M', Q ρ M' → Sta M' H' → Stp H M H' M' → RpE (imm H' M') σ ρ → k σ H'
def Px (H : Hp) (M : Mh) (X : XD) (W : WX) : Prop := ∀ c σ ρ H' M', X c ρ M' → Sta M' H' → Stp H M H' M' → RpE (imm H' M') σ ρ → W (.ref c) none σ H'
theorem Pe.mono {H : Hp} {M : Mh} {H' : Hp} {M' : Mh} {Q : D → Mh → Prop} {k : VK} (p : Pe H M Q k) (t : Stp H M H' M') : Pe H' M' Q k := fun v d H2 M2 q s t2 r => p v d H2 M2 q s (t.trans t2) r
theorem Pt.mono {H : Hp} {M : Mh} {H' : Hp} {M' : Mh} {Q : Bool → Mh → Prop} {k : Bool → Hp → Prop} (p : Pt H M Q k) (t : Stp H M H' M') : Pt H' M' Q k := fun b H2 M2 q s t2 => p b H2 M2 q s (t.trans t2)
theorem Pa.mono {H : Hp} {M : Mh} {H' : Hp} {M' : Mh} {Q : List D → Mh → Prop} {k : List V → Hp → Prop} (p : Pa H M Q k) (t : Stp H M H' M') : Pa H' M' Q k := fun v d H2 M2 q s t2 r => p v d H2 M2 q s (t.trans t2) r
theorem Pn.mono {H : Hp} {M : Mh} {H' : Hp} {M' : Mh} {Q : En → Mh → Prop} {k : L2.St → Hp → Prop} (p : Pn H M Q k) (t : Stp H M H' M') : Pn H' M' Q k := fun v d H2 M2 q s t2 r => p v d H2 M2 q s (t.trans t2) r
theorem Px.mono {H : Hp} {M : Mh} {H' : Hp} {M' : Mh} {X : XD} {W : WX} (p : Px H M X W) (t : Stp H M H' M') : Px H' M' X W := fun c v d H2 M2 q s t2 r => p c v d H2 M2 q s (t.trans t2) r
structure DE where
  nx : En → Mh → Prop
  rt : D → Mh → Prop
  bk : En → Mh → Prop := fun _ _ => False
  ct : En → Mh → Prop := fun _ _ => False
structure Pd (H : Hp) (M : Mh) (A : DE) (D : Ends) : Prop where
  nx : Pn H M A.nx D.nx
  rt : Pe H M A.rt D.rt
  bk : Pn H M A.bk D.bk
  ct : Pn H M A.ct D.ct
theorem Pd.mono {H : Hp} {M : Mh} {H' : Hp} {M' : Mh} {A : DE} {D : Ends} (p : Pd H M A D) (t : Stp H M H' M') : Pd H' M' A D := ⟨p.nx.mono t, p.rt.mono t, p.bk.mono t, p.ct.mono t⟩

/-! ### the judgements -/
def lE (W : WX) (te : TE) (ρ : En) (M : Mh) (Q : D → Mh → Prop) (X : XD) : Prop := ∀ σ H k, Sta M H → RpE (imm H M) σ ρ → Pe H M Q k → Px H M X W → te σ H k
def lT (W : WX) (tt : TT) (ρ : En) (M : Mh) (Q : Bool → Mh → Prop) (X : XD) : Prop := ∀ σ H k, Sta M H → RpE (imm H M) σ ρ → Pt H M Q k → Px H M X W → tt σ H k
def lA (W : WX) (ta : TA) (ρ : En) (M : Mh) (Q : List D → Mh → Prop) (X : XD) : Prop := ∀ σ H k, Sta M H → RpE (imm H M) σ ρ → Pa H M Q k → Px H M X W → ta σ H k
def lS (W : WX) (ts : TS) (ρ : En) (M : Mh) (A : DE) (X : XD) : Prop := ∀ σ H D, Sta M H → RpE (imm H M) σ ρ → Pd H M A D → Px H M X W → ts D σ H
def lG (W : WX) (g : TG) (d : D) (ρ : En) (M : Mh) (Q : En → Mh → Prop) (X : XD) : Prop := ∀ v σ H k, Sta M H → RpE (imm H M) σ ρ → Rp (imm H M) v d → Pn H M Q k → Px H M X W → g v σ H k
def lGs (W : WX) (g : TGs) (ds : List D) (ρ : En) (M : Mh) (Q : En → Mh → Prop) (X : XD) : Prop := ∀ vs σ H k, Sta M H → RpE (imm H M) σ ρ → RpL (imm H M) vs ds → Pn H M Q k → Px H M X W → g vs σ H k
/-- by values -/
def lR (r : R2) (x y : D) (M : Mh) (Q : D → Mh → Prop) : Prop := ∀ u v H k, Sta M H → Rp (imm H M) u x → Rp (imm H M) v y → Pe H M Q k → r u v H k
def lU (r : V → Hp → VK → Prop) (x : D) (M : Mh) (Q : D → Mh → Prop) : Prop := ∀ u H k, Sta M H → Rp (imm H M) u x → Pe H M Q k → r u H k
def lC (r : List V → Hp → VK → Prop) (xs : List D) (M : Mh) (Q : D → Mh → Prop) : Prop := ∀ us H k, Sta M H → RpL (imm H M) us xs → Pe H M Q k → r us H k
def lM (r : V → List V → Hp → VK → Prop) (x : D) (xs : List D) (M : Mh) (Q : D → Mh → Prop) : Prop := ∀ u us H k, Sta M H → Rp (imm H M) u x → RpL (imm H M) us xs → Pe H M Q k → r u us H k
def lSl (r : V → Option Int → Option Int → Hp → VK → Prop) (x : D) (lo hi : Option Int) (M : Mh) (Q : D → Mh → Prop) : Prop := ∀ u H k, Sta M H → Rp (imm H M) u x → Pe H M Q k → r u lo hi H k
def lO (W : WX) (t : TO) (ρ : En) (M : Mh) (Q : Option Int → Mh → Prop) (X : XD) : Prop := ∀ σ H (k : Option Int → Hp → Prop), Sta M H → RpE (imm H M) σ ρ → (∀ o H' M', Q o M' → Sta M' H' → Stp H M H' M' → k o H') → Px H M X W → t σ H k

section
variable {W : WX} {X : XD} {ρ : En} {M : Mh} {Q : D → Mh → Prop} {A : DE} {K : PySem.W.Frag}
/-! ### expressions -/
theorem l_var {i : Nat} {d : D} (h : ρ[i]? = some (some d)) (q : Q d M) : lE W (tVar i) ρ M Q X := fun σ H k s e p _ => by
  obtain ⟨v, hv, r⟩ := e.get h
  exact ⟨v, hv, p v d H M q s (Kn.refl _) r⟩
theorem l_int {i : Int} (q : Q (.int i) M) : lE W (tC (.int i)) ρ M Q X := fun _ H _ s _ p _ => p _ _ H M q s (Kn.refl _) (.int i)
theorem l_bl {i : Bool} (q : Q (.bl i) M) : lE W (tC (.bl i)) ρ M Q X := fun _ H _ s _ p _ => p _ _ H M q s (Kn.refl _) (.bl i)
theorem l_non (q : Q .non M) : lE W (tC .non) ρ M Q X := fun _ H _ s _ p _ => p _ _ H M q s (Kn.refl _) .non
theorem l_ty {n : String} (q : Q (.ty n) M) : lE W (tC (.ty n)) ρ M Q X := fun _ H _ s _ p _ => p _ _ H M q s (Kn.refl _) (.ty n)
theorem l_ref {a : Addr} (q : Q (.ref a) M) : lE W (tC (.ref a)) ρ M Q X := fun _ H _ s _ p _ => p _ _ H M q s (Kn.refl _) (.ref a)
theorem S_tl (x : Str) : S (TL.tl x) = x := TL.mk_tl x
theorem l_str {x : Str} (q : Q (.str (TL.tl x)) M) : lE W (tC (.str x)) ρ M Q X := fun _ H _ s _ p _ => p _ _ H M q s (Kn.refl _) (by
  have h := Rp.str (I := imm H M) (TL.tl x)
  rw [S_tl] at h
  exact h)
theorem l_op {r : R2} {ta tb : TE} (h : lE W ta ρ M (fun x M1 => lE W tb ρ M1 (fun y M2 => lR r x y M2 Q) X) X) : lE W (tOp r ta tb) ρ M Q X := fun σ H k s e p px =>
  h σ H _ s e (fun u x H1 M1 q1 s1 t1 r1 => q1 σ H1 _ s1 (e.mono t1) (fun v y H2 M2 q2 s2 t2 r2 => q2 u v H2 k s2 (r1.mono t2) r2 (p.mono (t1.trans t2))) (px.mono t1)) px
theorem l_un {r : V → Hp → VK → Prop} {ta : TE} (h : lE W ta ρ M (fun x M1 => lU r x M1 Q) X) : lE W (tUn r ta) ρ M Q X := fun σ H k s e p px =>
  h σ H _ s e (fun u x H1 M1 q1 s1 t1 r1 => q1 u H1 k s1 r1 (p.mono t1)) px
theorem lE_mono {te : TE} {Q' : D → Mh → Prop} (h : lE W te ρ M Q X) (i : ∀ d M, Q d M → Q' d M) : lE W te ρ M Q' X := fun σ H k s e p px =>
  h σ H k s e (fun v d H' M' q s' t r => p v d H' M' (i _ _ q) s' t r) px
/-- whole numbers -/
theorem r_I0 {g : Int → Int → V} {f : Int → Int → D} {i j : Int} (hg : ∀ I, Rp I (g i j) (f i j)) (q : Q (f i j) M) : lR (rI0 g) (.int i) (.int j) M Q := fun u v H k s ru rv p => by
  cases ru
  cases rv
  exact ⟨i, j, rfl, rfl, p _ _ H M q s (Kn.refl _) (hg _)⟩
theorem r_I {C : Int → Int → Prop} {g : Int → Int → V} {f : Int → Int → D} {i j : Int} (hg : ∀ I, Rp I (g i j) (f i j)) (hc : C i j) (q : Q (f i j) M) : lR (rI C g) (.int i) (.int j) M Q := fun u v H k s ru rv p => by
  cases ru
  cases rv
  exact ⟨i, j, rfl, rfl, hc, p _ _ H M q s (Kn.refl _) (hg _)⟩
theorem r_add {i j : Int} (q : Q (.int (i + j)) M) : lR (rI0 fun i j => .int (i + j)) (.int i) (.int j) M Q := r_I0 (g := fun i j => .int (i + j)) (f := fun i j => .int (i + j)) (fun _ => .int _) q
theorem r_sub {i j : Int} (q : Q (.int (i - j)) M) : lR (rI0 fun i j => .int (i - j)) (.int i) (.int j) M Q := r_I0 (g := fun i j => .int (i - j)) (f := fun i j => .int (i - j)) (fun _ => .int _) q
theorem r_lt {i j : Int} (q : Q (.bl (decide (i < j))) M) : lR (rI0 fun i j => .bl (decide (i < j))) (.int i) (.int j) M Q := r_I0 (g := fun i j => .bl (decide (i < j))) (f := fun i j => .bl (decide (i < j))) (fun _ => .bl _) q
theorem r_le {i j : Int} (q : Q (.bl (decide (i ≤ j))) M) : lR (rI0 fun i j => .bl (decide (i ≤ j))) (.int i) (.int j) M Q := r_I0 (g := fun i j => .bl (decide (i ≤ j))) (f := fun i j => .bl (decide (i ≤ j))) (fun _ => .bl _) q
theorem r_gt {i j : Int} (q : Q (.bl (decide (j < i))) M) : lR (rI0 fun i j => .bl (decide (j < i))) (.int i) (.int j) M Q := r_I0 (g := fun i j => .bl (decide (j < i))) (f := fun i j => .bl (decide (j < i))) (fun _ => .bl _) q
theorem r_ge {i j : Int} (q : Q (.bl (decide (j ≤ i))) M) : lR (rI0 fun i j => .bl (decide (j ≤ i))) (.int i) (.int j) M Q := r_I0 (g := fun i j => .bl (decide (j ≤ i))) (f := fun i j => .bl (decide (j ≤ i))) (fun _ => .bl _) q
theorem r_mul {i j : Int} (hc : CMul i j) (q : Q (.int (i * j)) M) : lR (rI CMul fun i j => .int (i * j)) (.int i) (.int j) M Q := r_I (g := fun i j => .int (i * j)) (f := fun i j => .int (i * j)) (fun _ => .int _) hc q
theorem r_fdiv {i j : Int} (hc : CDiv i j) (q : Q (.int (i / j)) M) : lR (rI CDiv fun i j => .int (i / j)) (.int i) (.int j) M Q := r_I (g := fun i j => .int (i / j)) (f := fun i j => .int (i / j)) (fun _ => .int _) hc q
theorem r_mod {i j : Int} (hc : 0 < j) (q : Q (.int (i % j)) M) : lR (rI (fun _ j => 0 < j) fun i j => .int (i % j)) (.int i) (.int j) M Q := r_I (C := fun _ j => 0 < j) (g := fun i j => .int (i % j)) (f := fun i j => .int (i % j)) (fun _ => .int _) hc q
theorem r_pow {i j : Int} (hc : CPow i j) (q : Q (.int (i ^ j.toNat)) M) : lR (rI CPow fun i j => .int (i ^ j.toNat)) (.int i) (.int j) M Q := r_I (g := fun i j => .int (i ^ j.toNat)) (f := fun i j => .int (i ^ j.toNat)) (fun _ => .int _) hc q
theorem u_neg {i : Int} (q : Q (.int (-i)) M) : lU (rU fun i => .int (-i)) (.int i) M Q := fun u H k s ru p => by
  cases ru
  exact ⟨i, rfl, p _ _ H M q s (Kn.refl _) (.int _)⟩
/-- is None -/
def isNon : D → Bool
  | .non => true
  | _ => false
def isOpq : D → Bool
  | .opq _ => true
  | _ => false
theorem isNon_rp {I : Hp} {v : V} {d : D} (r : Rp I v d) (h : isOpq d = false) : decide (v = .non) = isNon d := by
  cases r <;> first | rfl | cases h
def rIsNo : R2 := fun x y H Q => y = .non ∧ Q (.bl (decide (x = .non))) H
def rNotNo : R2 := fun x y H Q => y = .non ∧ Q (.bl (!decide (x = .non))) H
theorem r_isN {x : D} (ho : isOpq x = false) (q : Q (.bl (isNon x)) M) : lR rIsNo x .non M Q := fun u v H k s ru rv p => by
  cases rv
  refine ⟨rfl, p _ _ H M q s (Kn.refl _) ?_⟩
  rw [isNon_rp ru ho]
  exact .bl _
theorem r_notN {x : D} (ho : isOpq x = false) (q : Q (.bl (!isNon x)) M) : lR rNotNo x .non M Q := fun u v H k s ru rv p => by
  cases rv
  refine ⟨rfl, p _ _ H M q s (Kn.refl _) ?_⟩
  rw [isNon_rp ru ho]
  exact .bl _

/-! ### tests -/
theorem t_test {te : TE} {QT : Bool → Mh → Prop} (h : lE W te ρ M (fun d M1 => ∃ b, d = .bl b ∧ QT b M1) X) : lT W (tTest te) ρ M QT X := fun σ H k s e p px =>
  h σ H _ s e (fun u x H1 M1 q1 s1 t1 r1 => by
    obtain ⟨b, rfl, q⟩ := q1
    cases r1
    exact ⟨b, rfl, p b H1 M1 q s1 t1⟩) px
theorem t_B {te : TE} {QT : Bool → Mh → Prop} (h : lE W te ρ M (fun d M1 => ∃ b, d = .bl b ∧ QT b M1) X) : lT W (tB te) ρ M QT X := fun σ H k s e p px =>
  h σ H _ s e (fun u x H1 M1 q1 s1 t1 r1 => by
    obtain ⟨b, rfl, q⟩ := q1
    cases r1
    exact ⟨b, rfl, p b H1 M1 q s1 t1⟩) px
theorem t_and {t u : TT} {QT : Bool → Mh → Prop} (h : lT W t ρ M (fun b M1 => (b = true → lT W u ρ M1 QT X) ∧ (b = false → QT false M1)) X) : lT W (tAnd t u) ρ M QT X := fun σ H k s e p px =>
  h σ H _ s e (fun b H1 M1 q1 s1 t1 => by
    cases b with
    | true =>
      show u σ H1 k
      exact q1.1 rfl σ H1 k s1 (e.mono t1) (p.mono t1) (px.mono t1)
    | false =>
      show k false H1
      exact p false H1 M1 (q1.2 rfl) s1 t1) px
theorem t_or {t u : TT} {QT : Bool → Mh → Prop} (h : lT W t ρ M (fun b M1 => (b = true → QT true M1) ∧ (b = false → lT W u ρ M1 QT X)) X) : lT W (tOr t u) ρ M QT X := fun σ H k s e p px =>
  h σ H _ s e (fun b H1 M1 q1 s1 t1 => by
    cases b with
    | true =>
      show k true H1
      exact p true H1 M1 (q1.1 rfl) s1 t1
    | false =>
      show u σ H1 k
      exact q1.2 rfl σ H1 k s1 (e.mono t1) (p.mono t1) (px.mono t1)) px
theorem t_not {t : TT} {QT : Bool → Mh → Prop} (h : lT W t ρ M (fun b M1 => QT (!b) M1) X) : lT W (tNot t) ρ M QT X := fun σ H k s e p px =>
  h σ H _ s e (fun b H1 M1 q1 s1 t1 => p (!b) H1 M1 q1 s1 t1) px
theorem l_andV {ta tb : TE} (h : lE W ta ρ M (fun d M1 => ∃ b, d = .bl b ∧ (b = true → lE W tb ρ M1 Q X) ∧ (b = false → Q (.bl false) M1)) X) : lE W (tAndV ta tb) ρ M Q X := fun σ H k s e p px =>
  h σ H _ s e (fun u x H1 M1 q1 s1 t1 r1 => by
    obtain ⟨b, rfl, q, q'⟩ := q1
    cases r1
    refine ⟨b, rfl, ?_⟩
    cases b with
    | true =>
      show tb σ H1 k
      exact q rfl σ H1 k s1 (e.mono t1) (p.mono t1) (px.mono t1)
    | false =>
      show k (.bl false) H1
      exact p _ _ H1 M1 (q' rfl) s1 t1 (.bl _)) px
theorem l_orV {ta tb : TE} (h : lE W ta ρ M (fun d M1 => ∃ b, d = .bl b ∧ (b = true → Q (.bl true) M1) ∧ (b = false → lE W tb ρ M1 Q X)) X) : lE W (tOrV ta tb) ρ M Q X := fun σ H k s e p px =>
  h σ H _ s e (fun u x H1 M1 q1 s1 t1 r1 => by
    obtain ⟨b, rfl, q, q'⟩ := q1
    cases r1
    refine ⟨b, rfl, ?_⟩
    cases b with
    | true =>
      show k (.bl true) H1
      exact p _ _ H1 M1 (q rfl) s1 t1 (.bl _)
    | false =>
      show tb σ H1 k
      exact q' rfl σ H1 k s1 (e.mono t1) (p.mono t1) (px.mono t1)) px
theorem l_notV {ta : TE} (h : lE W ta ρ M (fun d M1 => ∃ b, d = .bl b ∧ Q (.bl (!b)) M1) X) : lE W (tNotV ta) ρ M Q X := fun σ H k s e p px =>
  h σ H _ s e (fun u x H1 M1 q1 s1 t1 r1 => by
    obtain ⟨b, rfl, q⟩ := q1
    cases r1
    exact ⟨b, rfl, p _ _ H1 M1 q s1 t1 (.bl _)⟩) px
theorem l_if {t : TT} {ta tb : TE} (h : lT W t ρ M (fun b M1 => (b = true → lE W ta ρ M1 Q X) ∧ (b = false → lE W tb ρ M1 Q X)) X) : lE W (tIf t ta tb) ρ M Q X := fun σ H k s e p px =>
  h σ H _ s e (fun b H1 M1 q1 s1 t1 => by
    cases b with
    | true =>
      show ta σ H1 k
      exact q1.1 rfl σ H1 k s1 (e.mono t1) (p.mono t1) (px.mono t1)
    | false =>
      show tb σ H1 k
      exact q1.2 rfl σ H1 k s1 (e.mono t1) (p.mono t1) (px.mono t1)) px
/-- a < b < c -/
theorem l_chain {r r' : R2} {ta tb tc : TE} (h : lE W ta ρ M (fun x M1 => lE W tb ρ M1 (fun y M2 => lR r x y M2 (fun z M3 => ∃ b, z = .bl b ∧ (b = true → lE W tc ρ M3 (fun w M4 => lR r' y w M4 Q) X) ∧ (b = false → Q (.bl false) M3))) X) X) :
    lE W (fun σ H Q => ta σ H fun x H1 => tb σ H1 fun y H2 => r x y H2 fun z H3 => ∃ k, z = .bl k ∧ if k = true then tc σ H3 fun w H4 => r' y w H4 Q else Q (.bl false) H3) ρ M Q X := fun σ H k s e p px =>
  h σ H _ s e (fun u x H1 M1 q1 s1 t1 r1 => q1 σ H1 _ s1 (e.mono t1) (fun v y H2 M2 q2 s2 t2 r2 => q2 u v H2 _ s2 (r1.mono t2) r2 (fun z zd H3 M3 q3 s3 t3 r3 => by
    obtain ⟨b, rfl, q4, q5⟩ := q3
    cases r3
    refine ⟨b, rfl, ?_⟩
    cases b with
    | true =>
      refine iteT (q4 rfl σ H3 _ s3 (e.mono (t1.trans (t2.trans t3))) (fun w wd H4 M4 q6 s4 t4 r4 => q6 v w H4 k s4 (r2.mono (t3.trans t4)) r4 (p.mono (t1.trans (t2.trans (t3.trans t4))))) (px.mono (t1.trans (t2.trans t3))))
    | false => exact iteF (p _ _ H3 M3 (q5 rfl) s3 (t1.trans (t2.trans t3)) (.bl _)))) (px.mono t1)) px

/-! ### arguments, displays -/
theorem a_nil {QA : List D → Mh → Prop} (q : QA [] M) : lA W tNil ρ M QA X := fun _ H _ s _ p _ => p _ _ H M q s (Kn.refl _) .nil
theorem a_cons {QA : List D → Mh → Prop} {te : TE} {tr : TA} (h : lE W te ρ M (fun d M1 => lA W tr ρ M1 (fun ds M2 => QA (d :: ds) M2) X) X) : lA W (tCons te tr) ρ M QA X := fun σ H k s e p px =>
  h σ H _ s e (fun u x H1 M1 q1 s1 t1 r1 => q1 σ H1 _ s1 (e.mono t1) (fun vs ds H2 M2 q2 s2 t2 r2 => p _ _ H2 M2 q2 s2 (t1.trans t2) (.cons (r1.mono t2) r2)) (px.mono t1)) px
theorem line_le {n : Nat} (h : n ≤ 100000) : n ≤ sizeLine := Nat.le_trans h (by decide)
theorem line_lt {n : Nat} (h : n ≤ 100000) : n < sizeLine := Nat.lt_of_le_of_lt h (by decide)
theorem l_tup {ta : TA} (h : lA W ta ρ M (fun ds M1 => ds.length ≤ 100000 ∧ Q (.tup ds) M1) X) : lE W (tTup ta) ρ M Q X := fun σ H k s e p px =>
  h σ H _ s e (fun vs ds H1 M1 q1 s1 t1 r1 => ⟨by rw [r1.length]; exact line_le q1.1, fun a ha => p _ _ _ M1 q1.2 (s1.new ha) (t1.trans (Stp.new ha)) (.tup (imm_new s1 ha) (r1.mono (Stp.new ha)))⟩) px
/-- a list that stays as it is -/
theorem l_lst {ta : TA} (h : lA W ta ρ M (fun ds M1 => ds.length ≤ 100000 ∧ Q (.lst ds) M1) X) : lE W (tLst ta) ρ M Q X := fun σ H k s e p px =>
  h σ H _ s e (fun vs ds H1 M1 q1 s1 t1 r1 => ⟨by rw [r1.length]; exact line_le q1.1, fun a ha => p _ _ _ M1 q1.2 (s1.new ha) (t1.trans (Stp.new ha)) (.lst (imm_new s1 ha) (r1.mono (Stp.new ha)))⟩) px
/-- a list that may change -/
theorem l_lstM {ta : TA} (h : lA W ta ρ M (fun ds M1 => ds.length ≤ 100000 ∧ ∀ a, M1 a = none → Q (.ref a) (upM M1 a (.lst ds))) X) : lE W (tLst ta) ρ M Q X := fun σ H k s e p px =>
  h σ H _ s e (fun vs ds H1 M1 q1 s1 t1 r1 => ⟨by rw [r1.length]; exact line_le q1.1, fun a ha => p _ _ _ _ (q1.2 a (s1.fresh ha)) (s1.newC ha ⟨vs, rfl, r1⟩) (t1.trans (Stp.newC ha)) (.ref a)⟩) px

/-! ### statements -/
theorem s_next (q : A.nx ρ M) : lS W tNext ρ M A X := fun _ H _ s e p _ => p.nx _ _ H M q s (Kn.refl _) e
theorem s_seq {t u : TS} (h : lS W t ρ M { A with nx := fun ρ1 M1 => lS W u ρ1 M1 A X } X) : lS W (tSeq t u) ρ M A X := fun σ H D s e p px =>
  h σ H _ s e ⟨fun σ1 ρ1 H1 M1 q1 s1 t1 e1 => q1 σ1 H1 D s1 e1 (p.mono t1) (px.mono t1), p.rt, p.bk, p.ct⟩ px
theorem s_asg {te : TE} {g : TG} (h : lE W te ρ M (fun d M1 => lG W g d ρ M1 A.nx X) X) : lS W (tAsg te g) ρ M A X := fun σ H D s e p px =>
  h σ H _ s e (fun v d H1 M1 q1 s1 t1 r1 => q1 v σ H1 _ s1 (e.mono t1) r1 (p.nx.mono t1) (px.mono t1)) px
theorem g_name {i : Nat} {d : D} {QG : En → Mh → Prop} (q : QG (ρ.set i (some d)) M) : lG W (gName i) d ρ M QG X := fun v σ H k s e r p _ =>
  p _ _ H M q s (Kn.refl _) (RpE.set (v := some v) (d := some d) r i e)
theorem g_nil {QG : En → Mh → Prop} (q : QG ρ M) : lGs W gNil [] ρ M QG X := fun vs σ H k s e r p _ => by
  cases r
  exact ⟨rfl, p _ _ H M q s (Kn.refl _) e⟩
theorem g_cons {t : TG} {u : TGs} {d : D} {ds : List D} {QG : En → Mh → Prop} (h : lG W t d ρ M (fun ρ1 M1 => lGs W u ds ρ1 M1 QG X) X) : lGs W (gCons t u) (d :: ds) ρ M QG X := fun vs σ H k s e r p px => by
  cases r with
  | cons r1 r2 =>
    refine ⟨_, _, rfl, h _ σ H _ s e r1 (fun σ1 ρ1 H1 M1 q1 s1 t1 e1 => ?_) px⟩
    exact q1 _ σ1 H1 k s1 e1 (r2.mono t1) (p.mono t1) (px.mono t1)
theorem g_tup {n : Nat} {t : TGs} {ds : List D} {QG : En → Mh → Prop} (hn : ds.length = n) (h : lGs W t ds ρ M QG X) : lG W (gTup K n t) (.tup ds) ρ M QG X := fun v σ H k s e r p px => by
  cases r with
  | tup ha hr => exact ⟨_, _, rfl, SqT.of (of_imm ha).1, by rw [hr.length, hn], h _ σ H k s e hr p px⟩
theorem s_ret {te : TE} (h : lE W te ρ M A.rt X) : lS W (tRet te) ρ M A X := fun σ H D s e p px => h σ H _ s e p.rt px
theorem s_retN (q : A.rt .non M) : lS W tRetN ρ M A X := fun _ H _ s _ p _ => p.rt _ _ H M q s (Kn.refl _) .non
theorem s_drop {te : TE} (h : lE W te ρ M (fun _ M1 => A.nx ρ M1) X) : lS W (tDrop te) ρ M A X := fun σ H D s e p px =>
  h σ H _ s e (fun v d H1 M1 q1 s1 t1 r1 => p.nx _ _ H1 M1 q1 s1 t1 (e.mono t1)) px
theorem s_if {c : TT} {t u : TS} (h : lT W c ρ M (fun b M1 => (b = true → lS W t ρ M1 A X) ∧ (b = false → lS W u ρ M1 A X)) X) : lS W (tIfS c t u) ρ M A X := fun σ H D s e p px =>
  h σ H _ s e (fun b H1 M1 q1 s1 t1 => by
    cases b with
    | true =>
      show t D σ H1
      exact q1.1 rfl σ H1 D s1 (e.mono t1) (p.mono t1) (px.mono t1)
    | false =>
      show u D σ H1
      exact q1.2 rfl σ H1 D s1 (e.mono t1) (p.mono t1) (px.mono t1)) px
theorem s_par {i j : Nat} {ta : TA} (h : lA W ta ρ M (fun ds M1 => ∃ d d', ds = [d, d'] ∧ A.nx ((ρ.set i (some d)).set j (some d')) M1) X) : lS W (tPar i j ta) ρ M A X := fun σ H D s e p px =>
  h σ H _ s e (fun vs ds H1 M1 q1 s1 t1 r1 => by
    obtain ⟨d, d', rfl, q⟩ := q1
    cases r1 with
    | cons ra rb =>
      cases rb with
      | cons rb rc =>
        cases rc
        exact ⟨_, _, rfl, p.nx _ _ H1 M1 q s1 t1 (RpE.set (v := some _) (d := some d') rb j (RpE.set (v := some _) (d := some d) ra i (e.mono t1)))⟩) px
theorem s_cut {t u : TS} (Mid : En → Mh → Prop) (h : lS W t ρ M { A with nx := Mid } X) (h2 : ∀ ρ' M', Mid ρ' M' → lS W u ρ' M' A X) : lS W (tSeq t u) ρ M A X := fun σ H D s e p px =>
  h σ H _ s e ⟨fun σ1 ρ1 H1 M1 q1 s1 t1 e1 => h2 ρ1 M1 q1 σ1 H1 D s1 e1 (p.mono t1) (px.mono t1), p.rt, p.bk, p.ct⟩ px
/-- a cell that changes no more, in a slot -/
theorem s_frz {t : TS} {i : Nat} {a : Addr} {ds : List D} (hi : ρ[i]? = some (some (.ref a))) (m : M a = some (.lst ds)) (h : lS W t (ρ.set i (some (.lst ds))) (deM M a) A X) : lS W t ρ M A X := fun σ H D s e p px => by
  have e2 : RpE (imm H (deM M a)) σ (ρ.set i (some (.lst ds))) := by
    obtain ⟨v, hv, r⟩ := e.get hi
    cases r
    have e3 := RpE.set (v := some (.ref a)) (d := some (.lst ds)) (I := imm H (deM M a)) (Rp.frz s m) i (e.mono (Stp.frz m))
    have eq : σ.set i (some (.ref a)) = σ := by
      refine List.ext_getElem? fun j => ?_
      by_cases hj : i = j
      · subst hj
        have hl : i < σ.length := by
          have := List.getElem?_eq_some_iff.mp hv
          exact this.1
        rw [List.getElem?_set_self hl, hv]
      · rw [List.getElem?_set_ne hj]
    rw [eq] at e3
    exact e3
  exact h σ H D (s.frz m) e2 (p.mono (Stp.frz m)) (px.mono (Stp.frz m))
/-- .. in an answer -/
theorem l_frz {te : TE} (h : lE W te ρ M (fun d M1 => ∃ a ds, d = .ref a ∧ M1 a = some (.lst ds) ∧ Q (.lst ds) (deM M1 a)) X) : lE W te ρ M Q X := fun σ H k s e p px =>
  h σ H k s e (fun v d H1 M1 q1 s1 t1 r1 => by
    obtain ⟨a, ds, rfl, m, q⟩ := q1
    cases r1
    exact p _ _ H1 _ q (s1.frz m) (t1.trans (Stp.frz m)) (Rp.frz s1 m)) px
/-- in what is known: any fact about the state may be used -/
theorem s_raise {c : Addr} (q : X c ρ M) : lS W (fun _ σ H => (fun (cls : Value) (d : Option Addr) (_ : L2.St) (H : Hp) => W cls d σ H) (.ref c) none σ H) ρ M A X := fun σ H D s e p px => px c σ ρ H M q s (Kn.refl _) e
end

/-! ### a def's promise, by data -/
abbrev DSp := List D → Mh → (D → Mh → Prop) → (Addr → Mh → Prop) → Prop
def lift (n : Nat) (ds : DSp) : Sp := fun vs H Q E => ∃ (M : Mh) (xs : List D) (Qd : D → Mh → Prop) (Ed : Addr → Mh → Prop), Sta M H ∧ RpL (imm H M) vs xs ∧ xs.length = n ∧ ds xs M Qd Ed ∧ Pe H M Qd Q ∧
  ∀ c H' M', Ed c M' → Sta M' H' → Stp H M H' M' → E (.ref c) none H'
theorem lift_len {n : Nat} {ds : DSp} {vs : List V} {H : Hp} {Q : VK} {E : XK} (h : lift n ds vs H Q E) : vs.length = n := by
  obtain ⟨M, xs, _, _, _, r, hn, _⟩ := h
  rw [r.length, hn]
/-- nothing is let out -/
abbrev W0 : WX := fun _ _ _ _ => False
/-- what leaves a def -/
abbrev WF (E : XK) : WX := fun cls d _ H => E cls d H
abbrev noX : XD := fun _ _ _ => False
theorem px0 {H : Hp} {M : Mh} {W : WX} : Px H M noX W := fun _ _ _ _ _ q => q.elim
/-- a body's reading keeps the promise -/
theorem lift_body {n : Nat} {ds : DSp} {N : List Str} {t : WX → TS} (hN : n ≤ N.length)
    (h : ∀ (W : WX) (xs : List D) (M : Mh) (Q : D → Mh → Prop) (E : Addr → Mh → Prop), xs.length = n → ds xs M Q E → lS W (t W) (xs.map some ++ List.replicate (N.length - n) none) M ⟨fun _ M' => Q .non M', Q, fun _ _ => False, fun _ _ => False⟩ (fun c _ M' => E c M'))
    {vs : List V} {H : Hp} {Q : VK} {E : XK} (k : lift n ds vs H Q E) : t (WF E) { nx := fun _ H' => Q .non H', rt := Q } (L2.start N vs) H := by
  obtain ⟨M, xs, Qd, Ed, s, r, hn, hd, p, px⟩ := k
  refine h (WF E) xs M Qd Ed hn hd _ H _ s ?_ ⟨fun σ' ρ' H' M' q s' t' _ => p _ _ H' M' q s' t' .non, p, fun _ _ _ _ q => q.elim, fun _ _ _ _ q => q.elim⟩ (fun c σ' ρ' H' M' q s' t' _ => px c H' M' q s' t')
  have e := RpE.start (N.length - n) r
  unfold L2.start
  rw [r.length, hn]
  exact e

section
variable {W : WX} {X : XD} {ρ : En} {M : Mh} {Q : D → Mh → Prop} {A : DE} {K : PySem.W.Frag}
theorem l_call {n : Nat} {sp : DSp} {ta : TA} (h : lA W ta ρ M (fun xs M1 => xs.length = n ∧ sp xs M1 Q (fun c M2 => X c ρ M2)) X) : lE W (tCallS (lift n sp) (WE W) ta) ρ M Q X := fun σ H k s e p px =>
  h σ H _ s e (fun vs xs H1 M1 q1 s1 t1 r1 => ⟨M1, xs, Q, _, s1, r1, q1.1, q1.2, p.mono t1, fun c H' M' q s' t' => px c σ ρ H' M' q s' (t1.trans t') (e.mono (t1.trans t'))⟩) px
/-- o.m(..), C(..), at the caller's slots -/
def tMethS (C : Addr) (m : Str) (sp : Sp) (E : L2.St → XK) (ta : TE) (t : TA) : TE := fun σ H Q => ta σ H fun x H1 => ∃ a dx fs, x = .ref a ∧ H1 a = some (.ins C dx fs) ∧ fs.lookup m = none ∧ t σ H1 fun vs H2 => sp (x :: vs) H2 Q (E σ)
def tMakeS (C : Addr) (sp : Sp) (E : L2.St → XK) (t : TA) : TE := fun σ H Q => t σ H fun vs H1 => ∀ x dx, H1 x = none → H1 dx = none → dx ≠ x →
  sp (.ref x :: vs) (upd (upd H1 dx (.own x)) x (.ins C dx [])) (fun v H2 => v = .non ∧ Q (.ref x) H2) (E σ)
theorem zip_none {κ : Type} {ns : List Str} {m : Str} (h : m ∉ ns) : ∀ {vs : List κ}, (ns.zip vs).lookup m = none := by
  induction ns with
  | nil => intro vs; rfl
  | cons n ns ih =>
    intro vs
    cases vs with
    | nil => rfl
    | cons v vs =>
      have h1 : m ≠ n := fun z => h (by rw [z]; exact List.mem_cons_self)
      have h2 : (m == n) = false := by simpa using h1
      rw [List.zip_cons_cons, List.lookup_cons, h2]
      exact ih fun z => h (List.mem_cons_of_mem _ z)
theorem zip_look {κ : Type} : ∀ {ns : List Str} {vs : List κ} {i : Nat} {f : Str} {v : κ}, ns.Nodup → ns[i]? = some f → vs[i]? = some v → (ns.zip vs).lookup f = some v
  | [], _, _, _, _, _, h, _ => by simp at h
  | _ :: _, [], _, _, _, _, _, h => by simp at h
  | n :: ns, v :: vs, 0, f, w, _, h1, h2 => by
    simp at h1 h2
    subst h1
    subst h2
    rw [List.zip_cons_cons, List.lookup_cons, beq_self_eq_true]
  | n :: ns, v :: vs, i + 1, f, w, hd, h1, h2 => by
    have h3 : ns[i]? = some f := by simpa using h1
    have h4 : f ≠ n := fun z => by
      rw [z] at h3
      exact (List.nodup_cons.mp hd).1 (List.mem_of_getElem? h3)
    have h5 : (f == n) = false := by simpa using h4
    rw [List.zip_cons_cons, List.lookup_cons, h5]
    exact zip_look (List.nodup_cons.mp hd).2 h3 (by simpa using h2)
theorem zip_put {v : V} : ∀ {ns : List Str} {vs : List V} {i : Nat} {f : Str}, ns.Nodup → ns[i]? = some f → ns.length = vs.length → putF f v (ns.zip vs) = ns.zip (vs.set i v)
  | [], _, _, _, _, h, _ => by simp at h
  | _ :: _, [], _, _, _, _, h => by simp at h
  | n :: ns, w :: vs, 0, f, _, h1, _ => by
    simp at h1
    subst h1
    show (if n = n then (n, v) :: ns.zip vs else _) = _
    rw [if_pos rfl]
    rfl
  | n :: ns, w :: vs, i + 1, f, hd, h1, hl => by
    have h3 : ns[i]? = some f := by simpa using h1
    have h4 : ¬ n = f := fun z => by
      rw [← z] at h3
      exact (List.nodup_cons.mp hd).1 (List.mem_of_getElem? h3)
    show (if n = f then _ else (n, w) :: putF f v (ns.zip vs)) = _
    rw [if_neg h4, zip_put (List.nodup_cons.mp hd).2 h3 (by simpa using hl)]
    rfl
theorem zip_putN {v : V} {f : Str} : ∀ {ns : List Str} {vs : List V}, f ∉ ns → ns.length = vs.length → putF f v (ns.zip vs) = (ns ++ [f]).zip (vs ++ [v])
  | [], [], _, _ => rfl
  | [], _ :: _, _, h => by simp at h
  | _ :: _, [], _, h => by simp at h
  | n :: ns, w :: vs, h, hl => by
    have h4 : ¬ n = f := fun z => h (by rw [z]; exact List.mem_cons_self)
    show (if n = f then _ else (n, w) :: putF f v (ns.zip vs)) = _
    rw [if_neg h4, zip_putN (fun z => h (List.mem_cons_of_mem _ z)) (by simpa using hl)]
    rfl
theorem l_meth {C : Addr} {m : Str} {n : Nat} {sp : DSp} {ta : TE} {t : TA}
    (h : lE W ta ρ M (fun x M1 => ∃ a ns ds, x = .ref a ∧ M1 a = some (.ins C ns ds) ∧ m ∉ ns ∧ lA W t ρ M1 (fun xs M2 => (D.ref a :: xs).length = n ∧ sp (.ref a :: xs) M2 Q (fun c M3 => X c ρ M3)) X) X) : lE W (tMethS C m (lift n sp) (WE W) ta t) ρ M Q X := fun σ H k s e p px =>
  h σ H _ s e (fun u x H1 M1 q1 s1 t1 r1 => by
    obtain ⟨a, ns, ds, rfl, hm, hn, q⟩ := q1
    cases r1
    obtain ⟨dx, vs, ha, _, _⟩ := s1.ins hm
    exact ⟨a, dx, _, rfl, ha, zip_none hn, q σ H1 _ s1 (e.mono t1) (fun vs xs H2 M2 q2 s2 t2 r2 => ⟨M2, _, Q, _, s2, .cons (.ref a) r2, q2.1, q2.2, p.mono (t1.trans t2), fun c H' M' q s' t' => px c σ ρ H' M' q s' ((t1.trans t2).trans t') (e.mono ((t1.trans t2).trans t'))⟩) (px.mono t1)⟩) px
theorem l_make {C : Addr} {n : Nat} {sp : DSp} {t : TA}
    (h : lA W t ρ M (fun xs M1 => xs.length + 1 = n ∧ ∀ a, M1 a = none → sp (.ref a :: xs) (upM M1 a (.ins C [] [])) (fun v M2 => v = .non ∧ Q (.ref a) M2) (fun c M3 => X c ρ M3)) X) : lE W (tMakeS C (lift n sp) (WE W) t) ρ M Q X := fun σ H k s e p px =>
  h σ H _ s e (fun vs xs H1 M1 q1 s1 t1 r1 x dx hx hdx nx => by
    have hx1 : upd H1 dx (.own x) x = none := by rw [upd_ne nx.symm]; exact hx
    have s2 : Sta (upM M1 x (.ins C [] [])) (upd (upd H1 dx (.own x)) x (.ins C dx [])) := (s1.new hdx).newC hx1 ⟨dx, [], rfl, .nil, rfl⟩
    have t2 : Stp H1 M1 (upd (upd H1 dx (.own x)) x (.ins C dx [])) (upM M1 x (.ins C [] [])) := (Stp.new hdx).trans (Stp.newC hx1)
    refine ⟨_, D.ref x :: xs, _, _, s2, .cons (.ref x) (r1.mono t2), q1.1, q1.2 x (s1.fresh hx), fun v d H' M' q s' t' r' => ?_, fun c H' M' q s' t' => px c σ ρ H' M' q s' ((t1.trans t2).trans t') (e.mono ((t1.trans t2).trans t'))⟩
    obtain ⟨rfl, q⟩ := q
    cases r'
    exact ⟨rfl, p _ _ H' M' q s' ((t1.trans t2).trans t') (.ref x)⟩) px

/-! ### fields -/
/-- a class whose instances have these fields -/
structure Fld (K : PySem.W.Frag) (C : Addr) (ns : List Str) : Prop where
  cl : Cls K C
  no : ∀ f ∈ ns, NoAttr K C f
  nd : ns.Nodup
  sz : ns.length < 1000
theorem l_fld {C : Addr} {ns : List Str} {f : Str} {ta : TE} (F : Fld K C ns) (i : Nat) (hi : ns[i]? = some f) (h : lE W ta ρ M (fun x M1 => ∃ a ds d, x = .ref a ∧ M1 a = some (.ins C ns ds) ∧ ds[i]? = some d ∧ Q d M1) X) : lE W (tFld K ta f) ρ M Q X := fun σ H k s e p px =>
  h σ H _ s e (fun u x H1 M1 q1 s1 t1 r1 => by
    obtain ⟨a, ds, d, rfl, hm, hd, q⟩ := q1
    cases r1
    obtain ⟨dx, vs, ha, rl, hl⟩ := s1.ins hm
    obtain ⟨v, hv, rv⟩ := rl.getD hd
    exact ⟨a, C, dx, _, v, rfl, ha, F.cl, F.no f (List.mem_of_getElem? hi), zip_look F.nd hi hv, p _ _ H1 M1 q s1 t1 rv⟩) px
theorem s_fld {C : Addr} {ns : List Str} {f : Str} {ta tv : TE} (F : Fld K C ns) (i : Nat) (hi : ns[i]? = some f) (h : lE W tv ρ M (fun y M1 => lE W ta ρ M1 (fun x M2 => ∃ a ds, x = .ref a ∧ M2 a = some (.ins C ns ds) ∧ A.nx ρ (upM M2 a (.ins C ns (ds.set i y)))) X) X) : lS W (sFld K ta tv f) ρ M A X := fun σ H D s e p px =>
  h σ H _ s e (fun w y H1 M1 q1 s1 t1 r1 => q1 σ H1 _ s1 (e.mono t1) (fun u x H2 M2 q2 s2 t2 r2 => by
    obtain ⟨a, ds, rfl, hm, q⟩ := q2
    cases r2
    obtain ⟨dx, vs, ha, rl, hl⟩ := s2.ins hm
    refine ⟨a, C, dx, _, rfl, ha, F.cl, F.no f (List.mem_of_getElem? hi), ?_, ?_⟩
    · rw [List.length_zip]
      have := F.sz
      omega
    · rw [zip_put F.nd hi (by rw [hl, rl.length])]
      refine p.nx _ _ _ _ q (s2.set hm ⟨dx, _, rfl, RpL.set (r1.mono t2) i rl, by rw [List.length_set]; exact hl⟩) ((t1.trans t2).trans (Stp.set hm)) (e.mono ((t1.trans t2).trans (Stp.set hm)))) (px.mono t1)) px
/-- a field's first store -/
theorem s_fldN {C : Addr} {ns ns0 : List Str} {f : Str} {ta tv : TE} (F : Fld K C ns) (i : Nat) (hi : ns[i]? = some f) (h0 : ns0 = ns.take i) (h : lE W tv ρ M (fun y M1 => lE W ta ρ M1 (fun x M2 => ∃ a ds, x = .ref a ∧ M2 a = some (.ins C ns0 ds) ∧ A.nx ρ (upM M2 a (.ins C (ns0 ++ [f]) (ds ++ [y])))) X) X) : lS W (sFld K ta tv f) ρ M A X := fun σ H D s e p px =>
  h σ H _ s e (fun w y H1 M1 q1 s1 t1 r1 => q1 σ H1 _ s1 (e.mono t1) (fun u x H2 M2 q2 s2 t2 r2 => by
    obtain ⟨a, ds, rfl, hm, q⟩ := q2
    cases r2
    obtain ⟨dx, vs, ha, rl, hl⟩ := s2.ins hm
    have hlt : i < ns.length := (List.getElem?_eq_some_iff.mp hi).1
    have nf : f ∉ ns0 := fun z => by
      rw [h0] at z
      obtain ⟨j, hj, e⟩ := List.getElem_of_mem z
      rw [List.length_take] at hj
      rw [List.getElem_take] at e
      have := (List.getElem?_eq_some_iff.mp hi).2
      exact List.pairwise_iff_getElem.mp F.nd j i (by omega) hlt (by omega) (by rw [e, this])
    refine ⟨a, C, dx, _, rfl, ha, F.cl, F.no f (List.mem_of_getElem? hi), ?_, ?_⟩
    · rw [List.length_zip, h0, List.length_take]
      have := F.sz
      omega
    · rw [zip_putN nf (by rw [hl, rl.length])]
      refine p.nx _ _ _ _ q (s2.set hm ⟨dx, _, rfl, rl.append (.cons (r1.mono t2) .nil), by rw [List.length_append, List.length_append, hl]; rfl⟩) ((t1.trans t2).trans (Stp.set hm)) (e.mono ((t1.trans t2).trans (Stp.set hm)))) (px.mono t1)) px

/-! ### what is walked -/
/-- J yields the data ds, as long as C holds of the cells -/
structure Wk (J : It) (ds : List D) (C : Mh → Prop) (H1 : Hp) (M1 : Mh) : Prop where
  go : ∀ i H M, Sta M H → Stp H1 M1 H M → C M → i < ds.length → J.go i H ∧ ∀ x H', J.yld i H x H' → Sta M H' ∧ Stp H M H' M ∧ ∃ d, ds[i]? = some d ∧ Rp (imm H' M) x d
  stop : ∀ H M, Sta M H → Stp H1 M1 H M → C M → J.stop ds.length H
def lI (W : WX) (wi : TI) (ρ : En) (M : Mh) (R : List D → (Mh → Prop) → Mh → Prop) (X : XD) : Prop := ∀ σ H k, Sta M H → RpE (imm H M) σ ρ → (∀ J H' M' ds C, R ds C M' → Sta M' H' → Stp H M H' M' → Wk J ds C H' M' → k J H') → Px H M X W → wi σ H k
/-- the data is a list, as it stands -/
def isL (M : Mh) (d : D) (ds : List D) : Prop := d = .lst ds ∨ ∃ a, d = .ref a ∧ M a = some (.lst ds)
theorem isL_sq {M : Mh} {H : Hp} {v : V} {d : D} {ds : List D} (h : isL M d ds) (s : Sta M H) (r : Rp (imm H M) v d) : ∃ a vs, v = .ref a ∧ H a = some (.lst vs) ∧ RpL (imm H M) vs ds := by
  rcases h with rfl | ⟨a, rfl, m⟩
  · cases r with
    | lst ha hr => exact ⟨_, _, rfl, (of_imm ha).1, hr⟩
  · cases r
    obtain ⟨vs, ha, hr⟩ := s.lst m
    exact ⟨a, vs, rfl, ha, hr⟩
theorem isL_lst {M : Mh} {ds : List D} : isL M (.lst ds) ds := .inl rfl
theorem isL_ref {M : Mh} {a : Addr} {ds : List D} (h : M a = some (.lst ds)) : isL M (.ref a) ds := .inr ⟨a, rfl, h⟩
theorem wk_list {M1 : Mh} {H1 : Hp} {v : V} {d : D} {a : Addr} {ds : List D} (r : Rp (imm H1 M1) v d) (hv : v = .ref a) : Wk (Itl K a) ds (fun M => isL M d ds) H1 M1 where
  go := fun i H M s t c hi => by
    obtain ⟨b, vs, eb, hb, hr⟩ := isL_sq c s (r.mono t)
    have eab : b = a := V.ref.inj (eb.symm.trans hv)
    subst eab
    have hi' : i < vs.length := by rw [hr.length]; exact hi
    refine ⟨⟨vs, vs[i], SqL.of hb, List.getElem?_eq_getElem hi'⟩, fun x H' y => ?_⟩
    obtain ⟨e, y⟩ := y
    subst e
    have hx := y vs (SqL.of hb)
    obtain ⟨d', h1, h2⟩ := hr.get hx
    exact ⟨s, Kn.refl _, d', h1, h2⟩
  stop := fun H M s t c => by
    obtain ⟨b, vs, eb, hb, hr⟩ := isL_sq c s (r.mono t)
    have eab : b = a := V.ref.inj (eb.symm.trans hv)
    subst eab
    exact ⟨vs, SqL.of hb, Nat.le_of_eq hr.length⟩
theorem i_list {tl : TE} {R : List D → (Mh → Prop) → Mh → Prop} (h : lE W tl ρ M (fun d M1 => ∃ ds, isL M1 d ds ∧ R ds (fun M2 => isL M2 d ds) M1) X) : lI W (iList K tl) ρ M R X := fun σ H k s e p px =>
  h σ H _ s e (fun v d H1 M1 q1 s1 t1 r1 => by
    obtain ⟨ds, hd, q⟩ := q1
    obtain ⟨a, vs, rfl, ha, hr⟩ := isL_sq hd s1 r1
    exact ⟨a, rfl, ⟨vs, SqL.of ha⟩, p _ H1 M1 ds _ q s1 t1 (wk_list r1 rfl)⟩) px
theorem i_tup {tl : TE} {R : List D → (Mh → Prop) → Mh → Prop} (h : lE W tl ρ M (fun d M1 => ∃ ds, d = .tup ds ∧ R ds (fun _ => True) M1) X) : lI W (iTup K tl) ρ M R X := fun σ H k s e p px =>
  h σ H _ s e (fun v d H1 M1 q1 s1 t1 r1 => by
    obtain ⟨ds, rfl, q⟩ := q1
    cases r1 with
    | tup ha hr =>
      rename_i a vs
      refine ⟨a, rfl, ⟨vs, SqT.of (of_imm ha).1⟩, p _ H1 M1 ds _ q s1 t1 ⟨fun i H M s t _ hi => ?_, fun H M s t _ => ?_⟩⟩
      · have hb := (of_imm (t _ _ ha)).1
        have hi' : i < vs.length := by rw [hr.length]; exact hi
        refine ⟨⟨vs, vs[i], SqT.of hb, List.getElem?_eq_getElem hi'⟩, fun x H' y => ?_⟩
        obtain ⟨e, y⟩ := y
        subst e
        obtain ⟨d', h1, h2⟩ := hr.get (y vs (SqT.of hb))
        exact ⟨s, Kn.refl _, d', h1, h2.mono t⟩
      · exact ⟨vs, SqT.of (of_imm (t _ _ ha)).1, Nat.le_of_eq hr.length⟩) px
theorem i_str {te : TE} {R : List D → (Mh → Prop) → Mh → Prop} (h : lE W te ρ M (fun d M1 => ∃ cs, d = .str cs ∧ R (cs.map fun c => D.str [c]) (fun _ => True) M1) X) : lI W (iStr te) ρ M R X := fun σ H k s e p px =>
  h σ H _ s e (fun v d H1 M1 q1 s1 t1 r1 => by
    obtain ⟨cs, rfl, q⟩ := q1
    cases r1
    have sz : (S cs).cps.size = cs.length := by simp [SX.S]
    refine ⟨S cs, rfl, p _ H1 M1 _ _ q s1 t1 ⟨fun i H M s t _ hi => ?_, fun H M s t _ => ?_⟩⟩
    · rw [List.length_map] at hi
      refine ⟨(show i < (S cs).cps.size by omega), fun x H' y => ?_⟩
      obtain ⟨e, c, hc, y⟩ := y
      subst e
      subst y
      have hc' : cs[i]? = some c := by simpa [SX.S] using hc
      exact ⟨s, Kn.refl _, .str [c], by rw [List.getElem?_map, hc']; rfl, .str [c]⟩
    · rw [List.length_map]
      exact Nat.le_of_eq sz) px
/-- the whole numbers lo, lo + 1, .. -/
def rngD (lo : Int) (n : Nat) : List D := (List.range n).map fun (i : Nat) => D.int (lo + (i : Int))
theorem wk_rng {lo : Int} {n : Nat} {H1 : Hp} {M1 : Mh} : Wk (Itr lo n) (rngD lo n) (fun _ => True) H1 M1 where
  go := fun i H M s t _ hi => by
    unfold rngD at hi
    rw [List.length_map, List.length_range] at hi
    refine ⟨hi, fun x H' y => ?_⟩
    obtain ⟨e, y⟩ := y
    subst e
    subst y
    refine ⟨s, Kn.refl _, .int (lo + i), ?_, .int _⟩
    unfold rngD
    rw [List.getElem?_map, List.getElem?_range hi]
    rfl
  stop := fun H M s t _ => by
    show n ≤ (rngD lo n).length
    unfold rngD
    rw [List.length_map, List.length_range]
    exact Nat.le_refl _
theorem i_rng1 {ta : TA} {R : List D → (Mh → Prop) → Mh → Prop} (h : lA W ta ρ M (fun ds M1 => ∃ j : Int, ds = [.int j] ∧ -1000000 ≤ j ∧ j < 1000000 ∧ R (rngD 0 j.toNat) (fun _ => True) M1) X) : lI W (iRng1 ta) ρ M R X := fun σ H k s e p px =>
  h σ H _ s e (fun vs ds H1 M1 q1 s1 t1 r1 => by
    obtain ⟨j, rfl, h1, h2, q⟩ := q1
    cases r1 with
    | cons ra rb =>
      cases ra
      cases rb
      exact ⟨j, rfl, by omega, by omega, p _ H1 M1 _ _ q s1 t1 wk_rng⟩) px
theorem i_rng2 {ta : TA} {R : List D → (Mh → Prop) → Mh → Prop} (h : lA W ta ρ M (fun ds M1 => ∃ i j : Int, ds = [.int i, .int j] ∧ -1000000 ≤ i ∧ i < 1000000 ∧ -1000000 ≤ j ∧ j < 1000000 ∧ R (rngD i (j - i).toNat) (fun _ => True) M1) X) : lI W (iRng2 ta) ρ M R X := fun σ H k s e p px =>
  h σ H _ s e (fun vs ds H1 M1 q1 s1 t1 r1 => by
    obtain ⟨i, j, rfl, h1, h2, h3, h4, q⟩ := q1
    cases r1 with
    | cons ra rb =>
      cases ra
      cases rb with
      | cons rb rc =>
        cases rb
        cases rc
        exact ⟨i, j, rfl, ⟨by omega, by omega, by omega, by omega⟩, p _ H1 M1 _ _ q s1 t1 wk_rng⟩) px
/-- a for loop by an invariant over the turn, the slots, the cells -/
theorem s_for {wi : TI} {g : TG} {tb : TS} (h : lI W wi ρ M (fun ds C M1 => ∃ I : Nat → En → Mh → Prop, I 0 ρ M1 ∧ (∀ i ρ' M', I i ρ' M' → C M') ∧
      (∀ i ρ' M' d, ds[i]? = some d → I i ρ' M' → lG W g d ρ' M' (fun ρ2 M2 => lS W tb ρ2 M2 ⟨I (i + 1), A.rt, A.nx, I (i + 1)⟩ X) X) ∧ (∀ ρ' M', I ds.length ρ' M' → A.nx ρ' M')) X) : lS W (tFor wi g tb) ρ M A X := fun σ H D s e p px =>
  h σ H _ s e (fun J H1 M1 ds C q1 s1 t1 wk => by
    obtain ⟨I, h0, hC, hs, hd⟩ := q1
    refine ⟨fun i m σ' H' => ∃ ρ' M', m = ds.length - i ∧ i ≤ ds.length ∧ I i ρ' M' ∧ Sta M' H' ∧ Stp H1 M1 H' M' ∧ RpE (imm H' M') σ' ρ', ⟨_, ρ, M1, rfl, Nat.zero_le _, h0, s1, Kn.refl _, e.mono t1⟩, ?_⟩
    rintro i m σ' H' ⟨ρ', M', rfl, hi, hI, s', t', e'⟩
    by_cases hlt : i < ds.length
    · obtain ⟨g1, g2⟩ := wk.go i H' M' s' t' (hC _ _ _ hI) hlt
      refine .inr ⟨g1, fun σ2 H2 => ∃ ρ2 M2, I (i + 1) ρ2 M2 ∧ Sta M2 H2 ∧ Stp H1 M1 H2 M2 ∧ RpE (imm H2 M2) σ2 ρ2, fun σ2 H2 ⟨ρ2, M2, a1, a2, a3, a4⟩ => ⟨ds.length - (i + 1), by omega, ρ2, M2, rfl, hlt, a1, a2, a3, a4⟩, fun x H3 y => ?_⟩
      obtain ⟨s3, t3, d, hdi, r3⟩ := g2 x H3 y
      have T3 := t'.trans t3
      refine hs i ρ' M' d hdi hI x σ' H3 _ s3 (e'.mono t3) r3 (fun σ4 ρ4 H4 M4 q4 s4 t4 e4 => ?_) (px.mono (t1.trans T3))
      have T4 := T3.trans t4
      refine q4 σ4 H4 _ s4 e4 ⟨fun σ5 ρ5 H5 M5 q5 s5 t5 e5 => ⟨ρ5, M5, q5, s5, T4.trans t5, e5⟩, p.rt.mono (t1.trans T4), p.nx.mono (t1.trans T4), fun σ5 ρ5 H5 M5 q5 s5 t5 e5 => ⟨ρ5, M5, q5, s5, T4.trans t5, e5⟩⟩ (px.mono (t1.trans T4))
    · have ei : i = ds.length := by omega
      subst ei
      exact .inl ⟨wk.stop H' M' s' t' (hC _ _ _ hI), p.nx.mono t1 _ _ H' M' (hd _ _ hI) s' t' e'⟩) px
/-- slots of a comprehension's own names -/
def wipeD (ρ : En) : List Nat → En
  | [] => ρ
  | v :: vs => (wipeD ρ vs).set v none
theorem RpE.wipe {I : Hp} {σ : L2.St} {ρ : En} (e : RpE I σ ρ) : ∀ vs : List Nat, RpE I (wipe σ vs) (wipeD ρ vs)
  | [] => e
  | v :: vs => RpE.set (v := none) (d := none) trivial v (RpE.wipe e vs)
/-- targets of a comprehension: a name's slot, or a tuple of such, leave nothing else changed -/
def Wip (g : TG) (vs : List Nat) : Prop := ∀ v σ H (Q : L2.St → Hp → Prop), g v σ H Q → g v σ H fun σ2 H2 => wipe σ2 vs = wipe σ vs ∧ Q σ2 H2
end

/-! ### list comprehensions -/
theorem wipe_at {σ : L2.St} : ∀ {vs : List Nat} (j : Nat), (wipe σ vs)[j]? = if j ∈ vs ∧ j < σ.length then some none else σ[j]?
  | [], j => by rw [if_neg (fun h => absurd h.1 (by simp))]; rfl
  | v :: vs, j => by
    show ((wipe σ vs).set v none)[j]? = _
    rw [List.getElem?_set, wipe_length, wipe_at j]
    by_cases h1 : v = j
    · subst h1
      by_cases h2 : v < σ.length
      · rw [if_pos rfl, if_pos h2, if_pos ⟨List.mem_cons_self, h2⟩]
      · rw [if_pos rfl, if_neg h2, if_neg (fun h => h2 h.2)]
        exact (List.getElem?_eq_none (by omega)).symm
    · rw [if_neg h1]
      by_cases h3 : j ∈ vs ∧ j < σ.length
      · rw [if_pos h3, if_pos ⟨List.mem_cons_of_mem _ h3.1, h3.2⟩]
      · rw [if_neg h3, if_neg (fun h => h3 ⟨(List.mem_cons.mp h.1).resolve_left (fun z => h1 z.symm), h.2⟩)]
theorem wipe_set {σ : L2.St} {vs : List Nat} {i : Nat} {v : Option V} (h : i ∈ vs) : wipe (σ.set i v) vs = wipe σ vs := by
  refine List.ext_getElem? fun j => ?_
  rw [wipe_at, wipe_at, List.length_set]
  by_cases h1 : j ∈ vs ∧ j < σ.length
  · rw [if_pos h1, if_pos h1]
  · rw [if_neg h1, if_neg h1, List.getElem?_set]
    by_cases h2 : i = j
    · subst h2
      rw [if_pos rfl]
      have h3 : ¬ i < σ.length := fun z => h1 ⟨h, z⟩
      rw [if_neg h3]
      exact (List.getElem?_eq_none (by omega)).symm
    · rw [if_neg h2]
theorem wipe_wipe {σ : L2.St} {vs : List Nat} : wipe (wipe σ vs) vs = wipe σ vs := by
  refine List.ext_getElem? fun j => ?_
  rw [wipe_at, wipe_length, wipe_at]
  by_cases h1 : j ∈ vs ∧ j < σ.length
  · rw [if_pos h1, if_pos h1]
  · rw [if_neg h1]
def WipG (g : TG) (vs : List Nat) : Prop := ∀ (τ : L2.St) v σ H (Q Q' : L2.St → Hp → Prop), wipe σ vs = τ → g v σ H Q → (∀ σ2 H2, wipe σ2 vs = τ → Q σ2 H2 → Q' σ2 H2) → g v σ H Q'
def WipGs (g : TGs) (vs : List Nat) : Prop := ∀ (τ : L2.St) xs σ H (Q Q' : L2.St → Hp → Prop), wipe σ vs = τ → g xs σ H Q → (∀ σ2 H2, wipe σ2 vs = τ → Q σ2 H2 → Q' σ2 H2) → g xs σ H Q'
theorem wip_name {i : Nat} {vs : List Nat} (h : i ∈ vs) : WipG (gName i) vs := fun τ v σ H Q Q' e q f => f _ _ (by rw [wipe_set h]; exact e) q
theorem wip_nil {vs : List Nat} : WipGs gNil vs := fun τ xs σ H Q Q' e q f => ⟨q.1, f _ _ e q.2⟩
theorem wip_cons {t : TG} {u : TGs} {vs : List Nat} (h : WipG t vs) (h2 : WipGs u vs) : WipGs (gCons t u) vs := fun τ xs σ H Q Q' e ⟨v, r, e1, q⟩ f =>
  ⟨v, r, e1, h τ v σ H _ _ e q fun σ2 H2 e2 q2 => h2 τ r σ2 H2 Q Q' e2 q2 f⟩
theorem wip_tup {K : PySem.W.Frag} {n : Nat} {t : TGs} {vs : List Nat} (h : WipGs t vs) : WipG (gTup K n t) vs := fun τ v σ H Q Q' e ⟨a, xs, e1, hs, hn, q⟩ f => ⟨a, xs, e1, hs, hn, h τ xs σ H Q Q' e q f⟩

section
variable {W : WX} {X : XD} {ρ : En} {M : Mh} {Q : D → Mh → Prop} {A : DE} {K : PySem.W.Frag}
/-- [elt for target in iter if ..], by an invariant over the turn, what is gathered, the cells (the new list at a among them) -/
theorem l_lc {wi : TI} {g : TG} {tt : TT} {te : TE} {vs : List Nat} (hw : WipG g vs) (h : lI W wi ρ M (fun ds C M1 => ∀ a, M1 a = none → ∃ I : Nat → List D → Mh → Prop, I 0 [] (upM M1 a (.lst [])) ∧
      (∀ i acc M', I i acc M' → C M' ∧ M' a = some (.lst acc) ∧ acc.length ≤ 100000) ∧
      (∀ i acc M' d, ds[i]? = some d → I i acc M' → lG W0 g d (wipeD ρ vs) M' (fun ρ2 M2 => lT W0 tt ρ2 M2 (fun b M3 => (b = true → lE W0 te ρ2 M3 (fun y M4 => M4 a = some (.lst acc) ∧ I (i + 1) (acc ++ [y]) (upM M4 a (.lst (acc ++ [y])))) noX) ∧ (b = false → I (i + 1) acc M3)) noX) noX) ∧
      (∀ acc M', I ds.length acc M' → Q (.ref a) M')) X) : lE W (tLc wi g tt te vs) ρ M Q X := fun σ H k s e p px =>
  h σ H _ s e (fun J H1 M1 ds C q1 s1 t1 wk a ha => by
    obtain ⟨I, h0, hC, hs, hd⟩ := q1 a (s1.fresh ha)
    have tn : Stp H1 M1 (upd H1 a (.lst [])) (upM M1 a (.lst [])) := Stp.newC ha
    refine ⟨fun i m H' => ∃ acc M', m = ds.length - i ∧ i ≤ ds.length ∧ I i acc M' ∧ Sta M' H' ∧ Stp H1 M1 H' M', ⟨_, [], _, rfl, Nat.zero_le _, h0, s1.newC ha ⟨[], rfl, .nil⟩, tn⟩, ?_⟩
    rintro i m H' ⟨acc, M', rfl, hi, hI, s', t'⟩
    by_cases hlt : i < ds.length
    · obtain ⟨g1, g2⟩ := wk.go i H' M' s' t' (hC _ _ _ hI).1 hlt
      refine .inr ⟨g1, fun H2 => ∃ acc2 M2, I (i + 1) acc2 M2 ∧ Sta M2 H2 ∧ Stp H1 M1 H2 M2, fun H2 ⟨acc2, M2, a1, a2, a3⟩ => ⟨ds.length - (i + 1), by omega, acc2, M2, rfl, hlt, a1, a2, a3⟩, fun x H3 y => ?_⟩
      obtain ⟨s3, t3, d, hdi, r3⟩ := g2 x H3 y
      have T3 := t'.trans t3
      refine hw (wipe σ vs) x (wipe σ vs) H3 (fun σ2 H2 => tt σ2 H2 fun b H5 => if b = true then te σ2 H5 fun y H6 => ∃ acc, H6 a = some (.lst acc) ∧ acc.length < sizeLine ∧ ∃ acc2 M2, I (i + 1) acc2 M2 ∧ Sta M2 (upd H6 a (.lst (acc ++ [y]))) ∧ Stp H1 M1 (upd H6 a (.lst (acc ++ [y]))) M2 else ∃ acc2 M2, I (i + 1) acc2 M2 ∧ Sta M2 H5 ∧ Stp H1 M1 H5 M2) _ wipe_wipe ?_ fun σ2 H2 e2 q2 => ⟨e2, q2⟩
      refine hs i acc M' d hdi hI x _ H3 _ s3 (RpE.wipe (e.mono (t1.trans T3)) vs) r3 (fun σ4 ρ4 H4 M4 q4 s4 t4 e4 => ?_) px0
      refine q4 σ4 H4 _ s4 e4 (fun b H5 M5 q5 s5 t5 => ?_) px0
      cases b with
      | false => exact iteF ⟨acc, M5, q5.2 rfl, s5, T3.trans (t4.trans t5)⟩
      | true =>
        refine iteT (q5.1 rfl σ4 H5 _ s5 (e4.mono t5) (fun v y H6 M6 q6 s6 t6 r6 => ?_) px0)
        obtain ⟨q7, q8⟩ := q6
        obtain ⟨vacc, hv, rv⟩ := s6.lst q7
        refine ⟨vacc, hv, ?_, acc ++ [y], _, q8, s6.set q7 ⟨_, rfl, rv.append (.cons r6 .nil)⟩, T3.trans (t4.trans (t5.trans (t6.trans (Stp.set q7))))⟩
        rw [rv.length]
        exact line_lt (hC _ _ _ hI).2.2
    · have ei : i = ds.length := by omega
      subst ei
      exact .inl ⟨wk.stop H' M' s' t' (hC _ _ _ hI).1, p _ _ H' M' (hd _ _ hI) s' (t1.trans t') (.ref a)⟩) px
/-- cells are known to others -/
abbrev KnM (M M' : Mh) : Prop := ∀ b c, M b = some c → M' b = some c
/-- a comprehension that changes nothing: item by item a value, or nothing -/
theorem l_lcP {wi : TI} {g : TG} {tt : TT} {te : TE} {vs : List Nat} (hw : WipG g vs) (h : lI W wi ρ M (fun ds C M1 => ∃ F : D → Option D, ds.length ≤ 100000 ∧ (∀ M', KnM M1 M' → C M') ∧
      (∀ d, d ∈ ds → ∀ M', KnM M1 M' → lG W0 g d (wipeD ρ vs) M' (fun ρ2 M2 => lT W0 tt ρ2 M2 (fun b M3 => (b = true → lE W0 te ρ2 M3 (fun y M4 => M4 = M' ∧ F d = some y) noX) ∧ (b = false → M3 = M' ∧ F d = none)) noX) noX) ∧
      Q (.lst (ds.filterMap F)) M1) X) : lE W (tLc wi g tt te vs) ρ M Q X := by
  refine l_frz (l_lc hw ?_)
  refine fun σ H k s e p px => h σ H k s e (fun J H' M' ds C q s' t' wk => ?_) px
  refine p J H' M' ds C (fun a ha => ?_) s' t' wk
  obtain ⟨F, hlen, hC, hF, hQ⟩ := q
  have kn : ∀ c, KnM M' (upM M' a c) := fun c b d hb => by
    have n : b ≠ a := fun z => by
      rw [z, ha] at hb
      cases hb
    rw [upM_ne n]
    exact hb
  have lenF : ∀ i, ((ds.take i).filterMap F).length ≤ 100000 := fun i => by
    have h1 := List.length_filterMap_le F (ds.take i)
    have h2 := List.length_take_le i ds
    have h3 : (ds.take i).length ≤ ds.length := by rw [List.length_take]; omega
    omega
  refine ⟨fun i acc M2 => M2 = upM M' a (.lst acc) ∧ acc = (ds.take i).filterMap F, ⟨rfl, rfl⟩, ?_, ?_, ?_⟩
  · rintro i acc M2 ⟨rfl, rfl⟩
    exact ⟨hC _ (kn _), upM_same, lenF i⟩
  · rintro i acc M2 d hd ⟨rfl, e1⟩
    have hlt := (List.getElem?_eq_some_iff.mp hd).1
    have et : ds.take (i + 1) = ds.take i ++ [d] := by rw [List.take_add_one, hd]; rfl
    refine fun v σ2 H2 k2 s2 e2 r2 p2 px2 => hF d (List.mem_of_getElem? hd) _ (kn _) v σ2 H2 k2 s2 e2 r2 (fun σ3 ρ3 H3 M3 q3 s3 t3 e3 => p2 _ _ _ _ ?_ s3 t3 e3) px2
    refine fun σ4 H4 k4 s4 e4 p4 px4 => q3 σ4 H4 k4 s4 e4 (fun b H5 M5 q5 s5 t5 => p4 _ _ _ ⟨fun hb => ?_, fun hb => ?_⟩ s5 t5) px4
    · refine fun σ6 H6 k6 s6 e6 p6 px6 => q5.1 hb σ6 H6 k6 s6 e6 (fun v7 y H7 M7 q7 s7 t7 r7 => p6 _ _ _ _ ?_ s7 t7 r7) px6
      obtain ⟨rfl, ef⟩ := q7
      refine ⟨upM_same, upM_upM, ?_⟩
      rw [et, List.filterMap_append, ← e1]
      simp [ef]
    · obtain ⟨rfl, ef⟩ := q5.2 hb
      refine ⟨rfl, ?_⟩
      rw [et, List.filterMap_append, ← e1]
      simp [ef]
  · rintro acc M2 ⟨rfl, e1⟩
    rw [List.take_length] at e1
    refine ⟨a, acc, rfl, upM_same, ?_⟩
    rw [deM_upM ha, e1]
    exact hQ

/-! ### built-in calls, methods, slices, by values -/
theorem l_cb {r : List V → Hp → VK → Prop} {ta : TA} (h : lA W ta ρ M (fun xs M1 => lC r xs M1 Q) X) : lE W (tCB r ta) ρ M Q X := fun σ H k s e p px =>
  h σ H _ s e (fun vs xs H1 M1 q1 s1 t1 r1 => q1 vs H1 k s1 r1 (p.mono t1)) px
def isS : D → Prop
  | .str _ => True
  | _ => False
theorem l_bmS {r : V → List V → Hp → VK → Prop} {to : TE} {ta : TA} (h : lE W to ρ M (fun x M1 => (∃ z, x = .str z) ∧ lA W ta ρ M1 (fun xs M2 => lM r x xs M2 Q) X) X) : lE W (tBM K "str" r to ta) ρ M Q X := fun σ H k s e p px =>
  h σ H _ s e (fun u x H1 M1 q1 s1 t1 r1 => by
    obtain ⟨⟨z, rfl⟩, q⟩ := q1
    cases r1
    exact ⟨rfl, q σ H1 _ s1 (e.mono t1) (fun vs xs H2 M2 q2 s2 t2 r2 => q2 _ vs H2 k s2 (.str z) r2 (p.mono (t1.trans t2))) (px.mono t1)⟩) px
theorem l_bm0S {r : V → List V → Hp → VK → Prop} {to : TE} (h : lE W to ρ M (fun x M1 => (∃ z, x = .str z) ∧ lM r x [] M1 Q) X) : lE W (tBM0 K "str" r to) ρ M Q X := fun σ H k s e p px =>
  h σ H _ s e (fun u x H1 M1 q1 s1 t1 r1 => by
    obtain ⟨⟨z, rfl⟩, q⟩ := q1
    cases r1
    exact ⟨rfl, q _ [] H1 k s1 (.str z) .nil (p.mono t1)⟩) px
theorem l_bmL {r : V → List V → Hp → VK → Prop} {to : TE} {ta : TA} (h : lE W to ρ M (fun x M1 => (∃ ds, isL M1 x ds) ∧ lA W ta ρ M1 (fun xs M2 => lM r x xs M2 Q) X) X) : lE W (tBM K "list" r to ta) ρ M Q X := fun σ H k s e p px =>
  h σ H _ s e (fun u x H1 M1 q1 s1 t1 r1 => by
    obtain ⟨⟨ds, hl⟩, q⟩ := q1
    obtain ⟨a, vs, rfl, ha, _⟩ := isL_sq hl s1 r1
    exact ⟨.inl ⟨rfl, vs, SqL.of ha⟩, q σ H1 _ s1 (e.mono t1) (fun vs xs H2 M2 q2 s2 t2 r2 => q2 _ vs H2 k s2 (r1.mono t2) r2 (p.mono (t1.trans t2))) (px.mono t1)⟩) px
theorem l_bm0L {r : V → List V → Hp → VK → Prop} {to : TE} (h : lE W to ρ M (fun x M1 => (∃ ds, isL M1 x ds) ∧ lM r x [] M1 Q) X) : lE W (tBM0 K "list" r to) ρ M Q X := fun σ H k s e p px =>
  h σ H _ s e (fun u x H1 M1 q1 s1 t1 r1 => by
    obtain ⟨⟨ds, hl⟩, q⟩ := q1
    obtain ⟨a, vs, rfl, ha, _⟩ := isL_sq hl s1 r1
    exact ⟨.inl ⟨rfl, vs, SqL.of ha⟩, q _ [] H1 k s1 r1 .nil (p.mono t1)⟩) px
theorem l_sl {r : V → Option Int → Option Int → Hp → VK → Prop} {te : TE} {tl th : TO} (h : lE W te ρ M (fun x M1 => lO W tl ρ M1 (fun lo M2 => lO W th ρ M2 (fun hi M3 => lSl r x lo hi M3 Q) X) X) X) : lE W (tSl r te tl th) ρ M Q X := fun σ H k s e p px =>
  h σ H _ s e (fun u x H1 M1 q1 s1 t1 r1 => q1 σ H1 _ s1 (e.mono t1) (fun lo H2 M2 q2 s2 t2 => q2 σ H2 _ s2 (e.mono (t1.trans t2)) (fun hi H3 M3 q3 s3 t3 => q3 u H3 k s3 (r1.mono (t2.trans t3)) (p.mono (t1.trans (t2.trans t3)))) (px.mono (t1.trans t2))) (px.mono t1)) px
theorem o_none {QO : Option Int → Mh → Prop} (q : QO none M) : lO W tNoPart ρ M QO X := fun _ H _ s _ p _ => p none H M q s (Kn.refl _)
theorem o_some {te : TE} {QO : Option Int → Mh → Prop} (h : lE W te ρ M (fun d M1 => ∃ i, d = .int i ∧ QO (some i) M1) X) : lO W (tPart te) ρ M QO X := fun σ H k s e p px =>
  h σ H _ s e (fun u x H1 M1 q1 s1 t1 r1 => by
    obtain ⟨i, rfl, q⟩ := q1
    cases r1
    exact ⟨i, rfl, p _ H1 M1 q s1 t1⟩) px
/-! truth -/
theorem t_truth {ta : TE} {QT : Bool → Mh → Prop} (h : lE W ta ρ M (fun x M1 => ∃ b, (∀ u H1, Sta M1 H1 → Rp (imm H1 M1) u x → TruV K u H1 b) ∧ QT b M1) X) : lT W (fun σ H Q => ta σ H fun x H' => ∃ k, TruV K x H' k ∧ Q k H') ρ M QT X := fun σ H k s e p px =>
  h σ H _ s e (fun u x H1 M1 q1 s1 t1 r1 => by
    obtain ⟨b, hb, q⟩ := q1
    exact ⟨b, hb u H1 s1 r1, p b H1 M1 q s1 t1⟩) px
theorem tru_list {x : D} {ds : List D} (h : isL M x ds) : ∀ u H1, Sta M H1 → Rp (imm H1 M) u x → TruV K u H1 (!ds.isEmpty) := fun u H1 s r => by
  obtain ⟨a, vs, rfl, ha, hr⟩ := isL_sq h s r
  refine .inl ⟨vs, SqL.of ha, ?_⟩
  cases hr <;> rfl
theorem tru_dic {a : Addr} {kvs : List (Key × D)} (h : M a = some (.dic kvs)) : ∀ u H1, Sta M H1 → Rp (imm H1 M) u (.ref a) → TruV K u H1 (!kvs.isEmpty) := fun u H1 s r => by
  cases r
  obtain ⟨vs, ha, hr⟩ := s.dic h
  refine .inr (.inr ⟨vs, ha, ?_⟩)
  cases hr <;> rfl
theorem tru_bl {b : Bool} : ∀ u H1, Sta M H1 → Rp (imm H1 M) u (.bl b) → TruV K u H1 b := fun u H1 s r => by
  cases r
  rfl
end

/-! ### defs, methods, classes as they may be called; what they raise is wished for at the caller's slots -/
structure Cal (P : Program) (w : World) (K : PySem.W.Frag) (mg : Str → Option Value) (base : Heap) (k : Nat) (x : Str) (sp : Sp) : Prop where
  ex : ∃ (f : Addr) (fd : FuncData) (ps : List Str), FnOk P w K mg base (L2.CX P w) k f fd ps sp ∧ mg x = some (.ref f) ∧ PySem.W.keepIn K (.ref f) = true ∧ Binds K fd ps []
structure Met (P : Program) (w : World) (K : PySem.W.Frag) (mg : Str → Option Value) (base : Heap) (k : Nat) (C : Addr) (m : Str) (sp : Sp) : Prop where
  ex : ∃ (f : Addr) (fd : FuncData) (ps : List Str), Cls K C ∧ Meth K C m f ∧ FnOk P w K mg base (L2.CX P w) k f fd ps sp ∧ Binds K fd ps []
structure Mak (P : Program) (w : World) (K : PySem.W.Frag) (mg : Str → Option Value) (base : Heap) (k : Nat) (x : Str) (C : Addr) (sp : Sp) : Prop where
  ex : ∃ (f : Addr) (fd : FuncData) (ps : List Str), Mk K C f ∧ FnOk P w K mg base (L2.CX P w) k f fd ps sp ∧ mg x = some (.ref C) ∧ Binds K fd ps []
section
variable {X : Cx} {k j : Nat} {C : Addr} {x m : Str} {sp : Sp} {W : WX} {p pos apos : Pos} {e o : Expr} {es : List Expr} {ta : TE} {t : TA}
theorem pe_c (c : Cal X.prog X.w X.K X.mg X.base k x sp) (hr : Room j X.A) (hk : k ≤ j) (hg : Gl X x) (tk : Takes X W) (ha : PA X (e :: es) t)
    (hdb : (x == ("__debug__" : Str)) = false := by decide) (he : starEach (e :: es) X.env = (false, eval e X.env) :: starEach es X.env := by rfl) (hpl : (backTo pos (starEach es X.env)).any (·.1) = false := by rfl) :
    PE X (.Call (.Name x p) (e :: es) [] pos) (tCallS sp (WE W) t) := by
  obtain ⟨f, fd, ps, F, hm, kp, b⟩ := c.ex
  exact pe_callS F (hr.mono hk) hg hm kp b (fun σ => passAt tk σ) ha hdb he hpl
theorem pe_c0 (c : Cal X.prog X.w X.K X.mg X.base k x sp) (hr : Room j X.A) (hk : k ≤ j) (hg : Gl X x) (tk : Takes X W)
    (hdb : (x == ("__debug__" : Str)) = false := by decide) : PE X (.Call (.Name x p) [] [] pos) (tCallS sp (WE W) tNil) := by
  obtain ⟨f, fd, ps, F, hm, kp, b⟩ := c.ex
  refine ⟨fun pins s σ H Q I h => ?_⟩
  refine wpAny_Call_Name_kw (ld_glob I hg hm ?_ hdb)
  exact PySem.W.callWith_K0 I.kIn kp (run_fnS (us := []) F (hr.mono hk) b (passAt tk σ) I .nil h)
theorem pe_mt {pl : Sem Bool} (c : Met X.prog X.w X.K X.mg X.base k C m sp) (hr : Room j X.A) (hk : k ≤ j) (tk : Takes X W) (he : PE X o ta) (ha : PA X (e :: es) t)
    (hst : starEach (e :: es) X.env = (false, eval e X.env) :: starEach es X.env := by rfl) (hpl : (backTo pos (starEach es X.env)).any (·.1) = false := by rfl)
    (ht : eval (.Call (.Attribute o m apos) (e :: es) [] pos) X.env = (do
      let ov ← eval o X.env
      standAt apos.atName
      let (f, first) ← holding [ov] (getMethod ov m pl)
      callWith pos f first (backTo pos (starEach (e :: es) X.env)) (backToKw pos (keywordEach [] X.env))) := by rfl) :
    PE X (.Call (.Attribute o m apos) (e :: es) [] pos) (tMethS C m sp (WE W) ta t) := by
  obtain ⟨f, fd, ps, hc, hm, F, b⟩ := c.ex
  refine ⟨fun pins s σ H Q I h => ?_⟩
  refine PySem.W.methodCall_KW (pl := pl) (thn (he.run pins s σ H _ I h) fun u s1 ⟨x, H1, I1, rx, a, dx, fs, ex, ea, l, q⟩ => ?_) ht
  subst ex
  obtain rfl : u = Value.ref a := rx
  refine getmeth_ok I1 ea hc hm l ?_
  refine PySem.W.callWith_K (first := [.ref a]) (h₀ := X.base) I.ok.mod.kin hm.kp (thn (ha.run pos pins s1 σ H1 _ I1 q) fun us s2 ⟨vs, H2, I2, r, q2⟩ => ⟨I2.kIn, ?_⟩) hst hpl
  exact run_fnS (us := .ref a :: us) (vs := .ref a :: vs) F (hr.mono hk) b (passAt tk σ) I2 (.cons rfl r) q2
theorem pe_mt0 {pl : Sem Bool} (c : Met X.prog X.w X.K X.mg X.base k C m sp) (hr : Room j X.A) (hk : k ≤ j) (tk : Takes X W) (he : PE X o ta)
    (ht : eval (.Call (.Attribute o m apos) [] [] pos) X.env = (do
      let ov ← eval o X.env
      standAt apos.atName
      let (f, first) ← holding [ov] (getMethod ov m pl)
      callWith pos f first (backTo pos (starEach [] X.env)) (backToKw pos (keywordEach [] X.env))) := by rfl) :
    PE X (.Call (.Attribute o m apos) [] [] pos) (tMethS C m sp (WE W) ta tNil) := by
  obtain ⟨f, fd, ps, hc, hm, F, b⟩ := c.ex
  refine ⟨fun pins s σ H Q I h => ?_⟩
  refine PySem.W.methodCall_KW (pl := pl) (thn (he.run pins s σ H _ I h) fun u s1 ⟨x, H1, I1, rx, a, dx, fs, ex, ea, l, q⟩ => ?_) ht
  subst ex
  obtain rfl : u = Value.ref a := rx
  refine getmeth_ok I1 ea hc hm l ?_
  exact PySem.W.callWith_K0 (first := [.ref a]) I1.kIn hm.kp (run_fnS (us := [.ref a]) (vs := [.ref a]) F (hr.mono hk) b (passAt tk σ) I1 (.cons rfl .nil) q)
theorem run_mkS {pins : List (Addr × Obj)} {σ : L2.St} {H : Hp} {s : Shared} {Q : VK} {us : List Value} {vs : List V} {f : Addr} {fd : FuncData} {ps : List Str} (M : Mk X.K C f) (F : FnOk X.prog X.w X.K X.mg X.base (L2.CX X.prog X.w) k f fd ps sp) (hr : Room (k + 1) X.A) (hb : Binds X.K fd ps [])
    (tk : Takes X W) (I : Inv X pins σ H s) (r : Vals vs us)
    (h : ∀ x dx, H x = none → H dx = none → dx ≠ x → sp (.ref x :: vs) (upd (upd H dx (.own x)) x (.ins C dx [])) (fun v H2 => v = .non ∧ Q (.ref x) H2) (WE W σ)) :
    wpAny (model X.prog X.w) X.A (call (.ref C) us) (EP X pins σ Q) X.xe s := by
  have hq := h (s.heap.objs.size + 1) s.heap.objs.size (I.hok.fresh (Nat.le_succ _)) (I.hok.fresh (Nat.le_refl _)) (Nat.ne_of_lt (Nat.lt_succ_self _))
  have I2 := Inv.made (C := C) I
  have r2 : Vals (V.ref (s.heap.objs.size + 1) :: vs) (Value.ref (s.heap.objs.size + 1) :: us) := .cons rfl r
  have hl : (Value.ref (s.heap.objs.size + 1) :: us ++ []).length = ps.length := by
    rw [List.append_nil, ← r2.length]
    exact F.len _ _ _ _ hq
  have bb := hb _ (Value.ref (s.heap.objs.size + 1) :: us) I2.kIn hl
  rw [List.append_nil] at bb
  refine wpAny_call (make_map (f := f) I.kIn M.makes M.init (beq_iff_eq.mp M.fn) (codeAny_mono (F.run _ X.stack _ _ ⟨Value.ref (s.heap.objs.size + 1) :: us, []⟩ (Value.ref (s.heap.objs.size + 1) :: us) _ _ (WE W σ) (hr.make C us [])
    (I2.env0.make C us []) bb r2 hq) fun r s' hq' => ?_))
  cases r with
  | error e => exact passAt tk σ pins _ _ e s' I2 hq'
  | ok fl =>
    cases fl with
    | ret u =>
      obtain ⟨v, H', I3, rv, ev, q3⟩ := I2.after hq'
      subst ev
      exact ⟨rv, ⟨V.ref (s.heap.objs.size + 1), H', I3, rfl, q3⟩⟩
    | next => exact False.elim hq'
    | brk => exact False.elim hq'
    | cont => exact False.elim hq'
theorem pe_mk (c : Mak X.prog X.w X.K X.mg X.base k x C sp) (hr : Room j X.A) (hk : k + 1 ≤ j) (hg : Gl X x) (tk : Takes X W) (ha : PA X (e :: es) t)
    (hdb : (x == ("__debug__" : Str)) = false := by decide) (he : starEach (e :: es) X.env = (false, eval e X.env) :: starEach es X.env := by rfl) (hpl : (backTo pos (starEach es X.env)).any (·.1) = false := by rfl) :
    PE X (.Call (.Name x p) (e :: es) [] pos) (tMakeS C sp (WE W) t) := by
  obtain ⟨f, fd, ps, M, F, hm, b⟩ := c.ex
  refine ⟨fun pins s σ H Q I h => ?_⟩
  refine wpAny_Call_Name_kw (ld_glob I hg hm ?_ hdb)
  refine PySem.W.callWith_K (h₀ := X.base) I.ok.mod.kin M.kp (thn (ha.run pos pins s σ H _ I h) fun us s1 ⟨vs, H1, I1, r, q⟩ => ⟨I1.kIn, ?_⟩) he hpl
  exact run_mkS M F (hr.mono hk) b tk I1 r q
theorem pe_mk0 (c : Mak X.prog X.w X.K X.mg X.base k x C sp) (hr : Room j X.A) (hk : k + 1 ≤ j) (hg : Gl X x) (tk : Takes X W)
    (hdb : (x == ("__debug__" : Str)) = false := by decide) : PE X (.Call (.Name x p) [] [] pos) (tMakeS C sp (WE W) tNil) := by
  obtain ⟨f, fd, ps, M, F, hm, b⟩ := c.ex
  refine ⟨fun pins s σ H Q I h => ?_⟩
  refine wpAny_Call_Name_kw (ld_glob I hg hm ?_ hdb)
  exact PySem.W.callWith_K0 I.kIn M.kp (run_mkS (us := []) M F (hr.mono hk) b tk I .nil h)
end

/-! ### an own exception: its class, raised, held -/
structure ExC (K : PySem.W.Frag) (mg : Str → Option Value) (x : Str) (C : Addr) : Prop where
  gC : mg x = some (.ref C)
  ex : PySem.W.excIn K C [.type "ValueError", .type "Exception", .type "BaseException", .type "object"] "ValueError.__new__" = true
  kp : PySem.W.keepIn K (.ref C) = true
  sb : PySem.W.subIn K (.ref C) (.type "BaseException") = some true
  ty : PySem.W.typeIn K (.ref C) = some (.type "type")
  ec : ExcC K C
/-- raise X('..') -/
def tRaiseC (C : Addr) (W : WX) : TS := fun _ σ H => W (.ref C) none σ H
theorem ps_raiseC {X : Cx} {x m : Str} {C : Addr} {W : WX} {j : Nat} {p p2 pos pos2 : Pos} (c : ExC X.K X.mg x C) (hc : X.calm = true) (tk : Takes X W) (hg : Gl X x) (hdb : (x == ("__debug__" : Str)) = false := by decide) :
    PS X (.Raise (some (.Call (.Name x p) [.Constant (.str m) j p2] [] pos)) none pos2) (tRaiseC C W) :=
  ps_raise hc tk (pmk_own PySem.F.excBase_ValueError c.ex c.gC c.kp (raises_own c.sb c.ty) hg hdb)
theorem s_raiseC {W : WX} {X : XD} {ρ : En} {M : Mh} {A : DE} {C : Addr} (q : X C ρ M) : lS W (tRaiseC C W) ρ M A X := fun σ H D s e p px => px C σ ρ H M q s (Kn.refl _) e

theorem Inv.track {X : Cx} {pins : List (Addr × Obj)} {σ : L2.St} {H : Hp} {s : Shared} {a c : Addr} {oe : Obj} (I : Inv X pins σ H s) (he : s.heap.get? a = some oe) (hc : oe.cls = .ref c) (hd : oe.dict = none) (hf : ∃ vs, oe.data = .fields vs)
    (hn : H a = none) (h0 : X.s_0.heap.get? a = none) (hL : a ≠ X.env.locals) (hp : ∀ p ∈ X.pn ++ pins, p.1 ≠ a) : Inv X pins σ (upd H a (ExV c a)) s := by
  have ne0 : ∀ b o, X.s_0.heap.get? b = some o → b ≠ a := fun b o e z => by
    rw [z, h0] at e
    cases e
  have neH : ∀ b o, H b = some o → b ≠ a := fun b o e => ne_of_none e hn
  refine ⟨I.ok, I.os, I.bare, ⟨I.base.keep, I.base.slot, fun b o e n hq => ?_, I.base.there, fun b xs e => ?_, fun b o u e => ?_, fun b ps e => ?_⟩, I.loc, I.cell, ?_, fun x cc e => ?_, fun p hp' => ?_, fun b u e => ?_, I.len⟩
  · rw [upd_ne (ne0 b o e)]
    exact I.base.free b o e n hq
  · have q := I.base.tups b xs e
    rw [upd_ne (neH b _ q)]
    exact q
  · have q := I.base.frzs b o u e
    rw [upd_ne (neH b _ q)]
    exact q
  · obtain ⟨m, q⟩ := I.base.tbls b ps e
    exact ⟨m, by rw [upd_ne (neH b _ q)]; exact q⟩
  · rw [upd_ne hL.symm]
    exact I.free
  · have hne : cc ≠ a := fun z => by
      obtain ⟨v, o, ho, hdata⟩ := I.cell x cc e
      rw [z, he] at ho
      cases ho
      obtain ⟨vs, hf⟩ := hf
      rw [hf] at hdata
      cases hdata
    rw [upd_ne hne]
    exact I.freeC x cc e
  · obtain ⟨e, n, ne, nf, d⟩ := I.pin p hp'
    exact ⟨e, by rw [upd_ne (hp p hp')]; exact n, ne, nf, d⟩
  · by_cases hb : b = a
    · subst hb
      rw [upd_same] at e
      cases e
      exact ⟨⟨oe, he, hc, hd, hf⟩, ⟨oe, he⟩, fun h1 h2 ⟨o, q1, q2⟩ k => ⟨o, k o q1, q2⟩⟩
    · rw [upd_ne hb] at e
      refine (I.hok b u e).stay (fun cc v _ q => q) (fun cc q => ?_) fun cc xs q => ?_
      · rw [upd_ne (neH cc _ q)]
        exact q
      · rw [upd_ne (neH cc _ q)]
        exact q

/-- try: body except X as e: held = e, held in slot h, e in slot i -/
def wHold (K : PySem.W.Frag) (c : Value) (i h : Nat) (D : Ends) : WX := fun cls d σ H =>
  ∃ C, cls = .ref C ∧ d = none ∧ PySem.W.exmOne K cls c = some true ∧ ∀ a, H a = none → D.nx ((σ.set h (some (.ref a))).set i none) (upd H a (ExV C a))
def tHold (K : PySem.W.Frag) (c : Value) (i h : Nat) (tb : WX → TS) : TS := fun D σ H => tb (wHold K c i h D) D σ H
section
variable {X : Cx} {x n y : Str} {c : Value} {i h : Nat} {body : List Stmt} {np pos pos' py pn' pa : Pos} {tb : WX → TS}
theorem ps_hold (hs : X.stack = X.env :: X.outer) (hf : X.env.frame = some X.env.locals) (hex : X.ex = []) (hN : X.N.Nodup) (hi : X.N[i]? = some n) (hln : X.env.kindOf n = some .local) (hh : X.N[h]? = some y) (hlh : X.env.scope.names.lookup y = some .local) (hih : (decide (h = i)) = false) (hc : Names X x c)
    (hb : ∀ (W : WX) (pn : List (Addr × Obj)) (xe : Value → Shared → Prop), Takes (X.tr pn xe) W → PassesOwn (model X.prog X.w) X.A X.env xe → PSs (X.tr pn xe) body (tb W))
    (hsw : ∀ (a : Addr) (pn : List (Addr × Obj)), swapsWith (.Name n pn') (some (.Name y py)) pa.line (X.suite a pn).env = pure false) (hdn : (n == ("__debug__" : Str)) = false := by decide) (hcn : (n == ("__classdict__" : Str)) = false := by decide) :
    PS X (.Try body [.ExceptHandler (some (.Name x np)) (some n) [.Assign [.Name y py] (.Name n pn') pa] pos'] [] [] pos) (tHold X.K c i h tb) := by
  refine ⟨fun pins s σ H D I h0 => ?_⟩
  have ok := I.ok
  have hfr : X.A.frames = some (X.env :: X.outer) := by rw [ok.frames, hs]
  have hloc : Loc X.env.scope n := .inl hln
  refine wpAny_Try_except ?_
  refine wpAny_mono ((hb (wHold X.K c i h D) (X.pn ++ pins) (fun e s₁ => wpAny (model X.prog X.w) X.A (noteFrame e X.env) (fun _ s₂ => wpAny (model X.prog X.w) X.A (setFlight e none) (fun _ s₃ =>
    wpAny (model X.prog X.w) X.A (handleBy e X.env [.ExceptHandler (some (.Name x np)) (some n) [.Assign [.Name y py] (.Name n pn') pa] pos']) (SP X pins D) X.xe s₃) X.xe s₂) X.xe s₁) (fun u s' xx => ?_) PassesOwn.looking).run [] s σ H D (I.toTry _) h0) (fun f s1 hsp => ?_) (fun e s1 he => he)
  · obtain ⟨a, B, sI, pins', σ', H', cls, d, rfl, J', nb, up, sky, na, os, ag, C, ec, ed, hb1, hyes⟩ := xx
    subst ec
    subst ed
    have J : Inv X pins σ' H' sI := J'.ofTry ok
    have sky' : Sky B (X.env :: X.outer) a (Zc (.ref C) none) X.env.locals s'.heap := by rw [← hs]; exact sky
    show wpAny (model X.prog X.w) X.A (noteFrame (.ref a) X.env) _ _ _
    refine Sky.land Zc.steady hfr hf sky' fun h3 fl3 up3 => ?_
    have J3 : Inv X pins σ' H' { s' with heap := h3 } := J.landed nb fl3.1 (up.trans up3) os ag
    obtain ⟨oe3, vs3, he3, hz3, hd3⟩ := fl3.there
    have notFr : ∀ {h : Heap} {o : Obj} {vs : Array Value}, h.FunFrames B (X.env :: X.outer) → h.get? a = some o → o.data = .fields vs → a ∉ frs (X.env :: X.outer) := fun {h o vs} ff e dd hm => by
      obtain ⟨_, o', e', hnf⟩ := ff.mem hm
      rw [e] at e'; cases e'
      exact hnf _ dd
    have nfr := notFr fl3.2.2.1 he3 hd3
    have nL : a ≠ X.env.locals := fun z => nfr (List.mem_filterMap.mpr ⟨X.env, List.mem_cons_self, by rw [hf, z]⟩)
    have nF : a ∉ X.fs := fun hm => by
      obtain ⟨e, he, q⟩ := List.mem_filterMap.mp hm
      exact nfr (List.mem_filterMap.mpr ⟨e, List.mem_cons_of_mem _ he, q⟩)
    have nI : sI.heap.get? a = none := by
      cases q : sI.heap.get? a with
      | none => rfl
      | some o =>
        have z := nb a o q (by rw [hs]; exact nfr)
        rw [fl3.2.1] at z
        cases z
    have n0 : X.s_0.heap.get? a = none := by
      cases q : X.s_0.heap.get? a with
      | none => rfl
      | some o =>
        obtain ⟨o', z⟩ := J.base.there a o q (by rw [hex]; exact fun z => nomatch z)
        rw [nI] at z
        cases z
    have S3 := J3.suite he3 hd3 na nL nF
    refine wpAny_handleBy_cons (codeAny_handlers_test ?_) (by intro q; cases q)
    have LT : PySem.W.Looks (model X.prog X.w) h3 (typeOf (.ref a)) (.ref C) := fun A Q E s k q => wpAny_typeOf_ref (k _ _ he3) (by rw [hz3.1]; exact q)
    have LM := PySem.W.exm_one (M := model X.prog X.w) (J3.kIn) LT hb1
    have test : ∀ {Q : Value → Shared → Prop} {E : Value → Shared → Prop}, Q c { s' with heap := h3 } → wpAny (model X.prog X.w) (X.A.mark (some (.ref a))) (eval (.Name x np) X.env) Q E { s' with heap := h3 } := fun {Q E} q => by
      obtain ⟨hg, hdbg, hm | ⟨hm, hv, hnn⟩⟩ := hc
      · exact ld_glob (X := X.suite a ((a, oe3) :: (X.pn ++ pins))) S3 hg hm q hdbg
      · exact ld_blt (X := X.suite a ((a, oe3) :: (X.pn ++ pins))) S3 hg hm hv q hnn hdbg
    refine test (LM.here ?_)
    refine codeAny_handlers_suite_as ?_
    refine HandSPX.lands_againZ fl3 fun h4 fl4 up4 => ?_
    have J4 : Inv X pins σ' H' { s' with heap := h4 } := J.landed nb fl4.1 ((up.trans up3).trans up4) os ag
    obtain ⟨oe4, vs4, he4, hz4, hd4⟩ := fl4.there
    have S4 := J4.suite he4 hd4 na nL nF
    refine store_ok (X := X.suite a ((a, oe4) :: (X.pn ++ pins))) (v := .ref a) S4 hN hi hloc rfl (fun s5 S5 => ?_) (.inr hln)
    have hsuite : PSs (X.suite a ((a, oe4) :: (X.pn ++ pins))) [.Assign [.Name y py] (.Name n pn') pa] (tAsg (tVar i) (gName h)) :=
      pss_one (ps_set (X := X.suite a ((a, oe4) :: (X.pn ++ pins))) hN hh (.inl hlh) (pe_var hi (.inl hln) hdn hcn) (hsw a _) (.inr hlh))
    have hlen : i < σ'.length := by rw [J.len]; exact (List.getElem?_eq_some_iff.mp hi).1
    refine wpAny_mono (hsuite.run [] s5 _ H' { nx := fun σ2 H2 => σ2 = (σ'.set i (some (.ref a))).set h (some (.ref a)) ∧ H2 = H', rt := fun _ _ => False } S5 ⟨.ref a, List.getElem?_set_self hlen, rfl, rfl⟩) (fun f s6 hsp => ?_) (fun _ _ z => False.elim z)
    cases f with
    | next =>
      obtain ⟨σ6, H6, S6, e6, e7⟩ := hsp
      subst e6
      subst e7
      have S7 : Inv X ((a, oe4) :: pins) _ H6 s6 := ⟨ok, S6.os, S6.bare, S6.base, S6.loc, S6.cell, S6.free, S6.freeC, fun p hp => S6.pin p (List.mem_append_left _ (by
        rcases List.mem_append.mp hp with q | q
        · exact List.mem_cons_of_mem _ (List.mem_append_left _ q)
        · rcases List.mem_cons.mp q with q | q
          · rw [q]; exact List.mem_cons_self
          · exact List.mem_cons_of_mem _ (List.mem_append_right _ q))), S6.hok, S6.len⟩
      refine gone_ok S7 hN hi hln fun s7 J7 => ?_
      have pa7 := J7.pin (a, oe4) (List.mem_append_right _ List.mem_cons_self)
      have J8 : Inv X pins _ H6 s7 := ⟨ok, J7.os, J7.bare, J7.base, J7.loc, J7.cell, J7.free, J7.freeC, fun p hp => J7.pin p (by
        rcases List.mem_append.mp hp with q | q
        · exact List.mem_append_left _ q
        · exact List.mem_append_right _ (List.mem_cons_of_mem _ q)), J7.hok, J7.len⟩
      have J9 := Inv.track J8 pa7.1 hz4.1 hz4.2 ⟨_, hd4⟩ na n0 nL (fun p hp z => by
        have q := (J.pin p hp).1
        rw [z, nI] at q
        cases q)
      refine ⟨_, _, J9, ?_⟩
      have hx := hyes a na
      have ec : ((σ'.set i (some (V.ref a))).set h (some (V.ref a))).set i none = (σ'.set h (some (V.ref a))).set i none := by
        have hne : h ≠ i := of_decide_eq_false hih
        rw [List.set_comm _ _ hne.symm, List.set_set]
      rw [ec]
      exact hx
    | brk =>
      obtain ⟨_, _, _, z⟩ := hsp
      exact z.elim
    | cont =>
      obtain ⟨_, _, _, z⟩ := hsp
      exact z.elim
    | ret u =>
      obtain ⟨_, _, _, _, _, z⟩ := hsp
      exact z.elim
  · cases f with
    | next =>
      obtain ⟨σ', H', J', q⟩ := hsp
      exact wpAny_execs_nil ⟨σ', H', J'.ofTry ok, q⟩
    | brk =>
      obtain ⟨σ', H', J', q⟩ := hsp
      exact ⟨σ', H', J'.ofTry ok, q⟩
    | cont =>
      obtain ⟨σ', H', J', q⟩ := hsp
      exact ⟨σ', H', J'.ofTry ok, q⟩
    | ret u =>
      obtain ⟨v, σ', H', J', r, q⟩ := hsp
      exact ⟨v, σ', H', J'.ofTry ok, r, q⟩
end
theorem s_hold {W : WX} {X : XD} {ρ : En} {M : Mh} {A : DE} {K : PySem.W.Frag} {c : Value} {i h : Nat} {tb : WX → TS}
    (q : ∀ W', lS W' (tb W') ρ M A (fun C ρ' M' => PySem.W.exmOne K (.ref C) c = some true ∧ A.nx ((ρ'.set h (some (.exc C))).set i none) M')) : lS W (tHold K c i h tb) ρ M A X := fun σ H D s e p px =>
  q _ σ H D s e p (fun C σ' ρ' H' M' q1 s1 t1 e1 => ⟨C, rfl, rfl, q1.1, fun a ha => p.nx _ _ _ _ q1.2 (s1.new ha) (t1.trans (Stp.new ha))
    (RpE.set (v := none) (d := none) trivial i (RpE.set (v := some (.ref a)) (d := some (.exc C)) (Rp.exc (imm_new s1 ha)) h (e1.mono (Stp.new ha))))⟩)

/-! isinstance of such -/
def rIsX (K : PySem.W.Frag) : List V → Hp → VK → Prop := fun xs H Q => ∃ (a D : Addr) (c : V) (cv : Value) (b : Bool), xs = [.ref a, c] ∧ H a = some (ExV D a) ∧ ExcC K D ∧ (∀ u, RelV c u → u = cv) ∧ PySem.W.kitOne K (.ref D) cv = some b ∧ Q (.bl b) H
theorem call_isX {X : Cx} : CallR X (.builtin "isinstance") (rIsX X.K) := by
  intro pins s σ H xs us Q I r h
  obtain ⟨a, D, c, cv, b, rfl, ha, C, hcv, e, q⟩ := h
  cases r with
  | cons rx rr =>
    cases rr with
    | cons rt rr =>
      cases rr
      cases rx
      have ec := hcv _ rt
      subst ec
      obtain ⟨⟨oe, hget, h1, h2, vs, hv⟩, _, _⟩ := I.hok a _ ha
      have J : PySem.W.InstAt s.heap a oe D none := by
        obtain ⟨oc, od, oda, osl⟩ := oe
        dsimp only at h1 h2 hv
        subst h1 h2 hv
        exact ⟨hget, rfl, rfl, trivial⟩
      exact PySem.W.kia_one (PySem.W.handS_kitx_exc C.hg C.hk C.hs C.hd C.ha C.hn C.ht C.hm) I.kIn J e (fun z => nomatch z) fun tk => ⟨.bl b, H, I.kept (t' := tk) fun _ _ z => z, rfl, q⟩
theorem c_isX {K : PySem.W.Frag} {M : Mh} {Q : D → Mh → Prop} {C c : Addr} {b : Bool} (hC : ExcC K C) (hk : PySem.W.kitOne K (.ref C) (.ref c) = some b) (q : Q (.bl b) M) : lC (rIsX K) [.exc C, .ref c] M Q := fun us H k s r p => by
  cases r with
  | cons r1 r2 =>
    cases r2 with
    | cons r2 r3 =>
      cases r3
      cases r2
      cases r1 with
      | exc ha => exact ⟨_, C, _, _, b, rfl, (of_imm ha).1, hC, fun u h => h, hk, p _ _ H M q s (Kn.refl _) (.bl b)⟩
theorem c_isXt {K : PySem.W.Frag} {M : Mh} {Q : D → Mh → Prop} {C : Addr} {c : String} {b : Bool} (hC : ExcC K C) (hk : PySem.W.kitOne K (.ref C) (.type c) = some b) (q : Q (.bl b) M) : lC (rIsX K) [.exc C, .ty c] M Q := fun us H k s r p => by
  cases r with
  | cons r1 r2 =>
    cases r2 with
    | cons r2 r3 =>
      cases r3
      cases r2
      cases r1 with
      | exc ha => exact ⟨_, C, _, _, b, rfl, (of_imm ha).1, hC, fun u h => h, hk, p _ _ H M q s (Kn.refl _) (.bl b)⟩

/-! ### pure functions of texts -/
def isAt (y x : List Nat) (i : Nat) : Bool := decide (i + y.length ≤ x.length) && ((x.drop i).take y.length == y)
def findAt (y x : List Nat) : Option Nat := (List.range (x.length + 1)).find? (isAt y x)
def hasT (y x : List Nat) : Bool := (findAt y x).isSome
theorem isAt_At (x y : List Nat) (i : Nat) : isAt y x i = true ↔ StrLaws.At (S x) (S y) (S x).length i := by
  unfold isAt StrLaws.At
  rw [Bool.and_eq_true, decide_eq_true_eq, StrLaws.subAt_eq, SX.S_len, SX.S_len]
theorem find_some {p : Nat → Bool} {n i : Nat} (hi : i < n) (hp : p i = true) (hn : ∀ k, k < i → p k = false) : (List.range n).find? p = some i := by
  induction n with
  | zero => omega
  | succ n ih =>
    rw [List.range_succ, List.find?_append]
    by_cases h : i < n
    · rw [ih h]
      rfl
    · have e : i = n := by omega
      subst e
      have : (List.range i).find? p = none := by
        rw [List.find?_eq_none]
        intro k hk
        rw [hn k (List.mem_range.mp hk)]
        exact Bool.false_ne_true
      rw [this]
      simp [hp]
theorem find_none {p : Nat → Bool} {n : Nat} (hn : ∀ k, k < n → p k = false) : (List.range n).find? p = none := by
  rw [List.find?_eq_none]
  intro k hk
  rw [hn k (List.mem_range.mp hk)]
  exact Bool.false_ne_true
theorem occ_find (x y : List Nat) : (Builtin.Str.occurrences (S x) (S y) 0 (S x).length 1).head? = findAt y x := by
  rcases StrLaws.occ_head (S x) (S y) 1 (Nat.le_refl _) with ⟨e, hn⟩ | ⟨i, r, e, ha, hn⟩
  · rw [e]
    refine (find_none fun k _ => ?_).symm
    cases h : isAt y x k with
    | false => rfl
    | true => exact absurd ((isAt_At x y k).mp h) (hn k)
  · rw [e]
    have hi := (isAt_At x y i).mpr ha
    refine (find_some ?_ hi fun k hk => ?_).symm
    · have h1 := ha.1
      have hx : (S x).length = x.length := SX.S_len x
      rw [hx] at h1
      omega
    · cases h : isAt y x k with
      | false => rfl
      | true => exact absurd ((isAt_At x y k).mp h) (hn k hk)
theorem occ_has (x y : List Nat) : (!(Builtin.Str.occurrences (S x) (S y) 0 (S x).length 1).isEmpty) = hasT y x := by
  unfold hasT
  rw [← occ_find]
  cases Builtin.Str.occurrences (S x) (S y) 0 (S x).length 1 <;> rfl
theorem find_is (x y : List Nat) : PySem.Txt.find (S x) (S y) = match findAt y x with | some i => (i : Int) | none => -1 := by
  unfold PySem.Txt.find
  rw [← occ_find]
  cases Builtin.Str.occurrences (S x) (S y) 0 (S x).length 1 <;> rfl
theorem starts_is (x y : List Nat) : PySem.Txt.startswith (S x) (S y) = isAt y x 0 := by
  unfold PySem.Txt.startswith isAt
  rw [StrLaws.subAt_eq, SX.S_len, SX.S_len]
/-- the cut of a list -/
def cutL {α : Type} (xs : List α) (lo hi : Option Int) : List α := (xs.drop (HT.sIx xs.length 0 lo)).take (HT.sIx xs.length xs.length hi - HT.sIx xs.length 0 lo)
theorem cutV_cutL (xs : List V) (lo hi : Option Int) : cutV xs lo hi = cutL xs lo hi := rfl
theorem RpL.cut {I : Hp} {vs : List V} {ds : List D} (r : RpL I vs ds) (lo hi : Option Int) : RpL I (cutV vs lo hi) (cutL ds lo hi) := by
  unfold cutV cutL
  rw [r.length]
  exact (r.drop _).take _
theorem cutS_cutL (z : List Nat) (lo hi : Option Int) : cutS (S z) lo hi = S (cutL z lo hi) := by
  unfold cutS cutL
  have h1 : (S z).length = z.length := SX.S_len z
  simp only [h1]
  try rfl

section
variable {W : WX} {X : XD} {ρ : En} {M : Mh} {Q : D → Mh → Prop} {A : DE} {K : PySem.W.Frag} {Y : Cx}
/-! ### + -/
def rAddS0 : R2 := fun x y H Q => ∃ i j, x = .str i ∧ y = .str j ∧ i.length + j.length ≤ sizeLine ∧ Q (.str (i ++ j)) H
def rAddA (K : PySem.W.Frag) : R2 := fun x y H Q => (rI0 fun i j => .int (i + j)) x y H Q ∨ (rAddS0 x y H Q ∨ (rCat x y H Q ∨ rCatT K x y H Q))
theorem op_addA : OpR Y (binaryOp .Add) (rAddA Y.K) := op_add.or ((show OpR Y (binaryOp .Add) rAddS0 from op_add_str).or (op_cat.or op_catT))
theorem r_addI {i j : Int} (q : Q (.int (i + j)) M) : lR (rAddA K) (.int i) (.int j) M Q := fun u v H k s ru rv p => .inl (r_add q u v H k s ru rv p)
theorem r_addS {a b : List Nat} (hl : a.length + b.length ≤ 100000) (q : Q (.str (a ++ b)) M) : lR (rAddA K) (.str a) (.str b) M Q := fun u v H k s ru rv p => by
  cases ru
  cases rv
  refine .inr (.inl ⟨_, _, rfl, rfl, ?_, ?_⟩)
  · rw [SX.S_len, SX.S_len]
    exact line_le hl
  · rw [SX.S_cat]
    exact p _ _ H M q s (Kn.refl _) (.str _)
/-- the new list stays as it is -/
theorem r_addL {x y : D} {xs ys : List D} (hx : isL M x xs) (hy : isL M y ys) (hl : xs.length + ys.length ≤ 100000) (q : Q (.lst (xs ++ ys)) M) : lR (rAddA K) x y M Q := fun u v H k s ru rv p => by
  obtain ⟨a, vs, rfl, ha, hr⟩ := isL_sq hx s ru
  obtain ⟨b, ws, rfl, hb, hr2⟩ := isL_sq hy s rv
  refine .inr (.inr (.inl ⟨a, b, vs, ws, rfl, rfl, ha, hb, ?_, fun c hc => ?_⟩))
  · rw [hr.length, hr2.length]
    exact line_le hl
  · exact p _ _ _ M q (s.new hc) (Stp.new hc) (.lst (imm_new s hc) ((hr.append hr2).mono (Stp.new hc)))
theorem r_addLM {x y : D} {xs ys : List D} (hx : isL M x xs) (hy : isL M y ys) (hl : xs.length + ys.length ≤ 100000) (q : ∀ a, M a = none → Q (.ref a) (upM M a (.lst (xs ++ ys)))) : lR (rAddA K) x y M Q := fun u v H k s ru rv p => by
  obtain ⟨a, vs, rfl, ha, hr⟩ := isL_sq hx s ru
  obtain ⟨b, ws, rfl, hb, hr2⟩ := isL_sq hy s rv
  refine .inr (.inr (.inl ⟨a, b, vs, ws, rfl, rfl, ha, hb, ?_, fun c hc => ?_⟩))
  · rw [hr.length, hr2.length]
    exact line_le hl
  · exact p _ _ _ _ (q c (s.fresh hc)) (s.newC hc ⟨_, rfl, hr.append hr2⟩) (Stp.newC hc) (.ref c)
theorem r_addT {xs ys : List D} (hx : xs ≠ []) (hy : ys ≠ []) (hl : xs.length + ys.length ≤ 100000) (q : Q (.tup (xs ++ ys)) M) : lR (rAddA K) (.tup xs) (.tup ys) M Q := fun u v H k s ru rv p => by
  cases ru with
  | tup ha hr =>
    cases rv with
    | tup hb hr2 =>
      rename_i a vs b ws
      refine .inr (.inr (.inr ⟨a, b, vs, ws, rfl, rfl, SqT.of (of_imm ha).1, SqT.of (of_imm hb).1, ?_, ?_, ?_, ?_⟩))
      · intro z
        rw [z] at hr
        cases hr
        exact hx rfl
      · rw [hr.length, hr2.length]
        exact line_le hl
      · intro z
        rw [z] at hr2
        cases hr2
        exact absurd rfl hy
      · intro _ c hc
        exact p _ _ _ M q (s.new hc) (Stp.new hc) (.tup (imm_new s hc) ((hr.append hr2).mono (Stp.new hc)))
/-! ### * -/
def rMulS0 : R2 := fun x y H Q => ∃ (a : List Nat) (n : Nat), x = .str (S a) ∧ y = .int (n : Int) ∧ a.length * n ≤ 100000 ∧ n ≤ 100000 ∧ Q (.str (S (List.replicate n a).flatten)) H
theorem foldl_arr (x : Array Nat) : ∀ (n : Nat) (acc : Array Nat), ((List.replicate n x).foldl (· ++ ·) acc).toList = acc.toList ++ (List.replicate n x.toList).flatten
  | 0, acc => by simp
  | n + 1, acc => by
    rw [List.replicate_succ, List.replicate_succ, List.foldl_cons, foldl_arr x n, List.flatten_cons, Array.toList_append, List.append_assoc]
theorem op_mul_s : OpR Y (binaryOp .Mult) rMulS0 := by
  intro pins s σ H x y v u Q I rx ry h
  obtain ⟨a, n, rfl, rfl, hl, hn, q⟩ := h
  obtain ⟨t, rfl⟩ := rx
  obtain ⟨t', rfl⟩ := ry
  have hlen : (S a).length = a.length := SX.S_len a
  have hmul : a.length * n ≤ 100000 := hl
  refine PySem.P.mul_str ?_ ?_ ?_ ?_
  · rw [decide_eq_false (by omega), decide_eq_false (by omega)]
    rfl
  · intro h1 h2
    rw [hlen]
    have hn1 : 0 < n := by omega
    have hle : a.length ≤ 100000 := by
      calc a.length = a.length * 1 := (Nat.mul_one _).symm
        _ ≤ a.length * n := Nat.mul_le_mul_left _ hn1
        _ ≤ 100000 := hmul
    have h3 : (100000 : Int) ≤ (2 ^ 63 - 1) / (n : Int) := by
      rw [Int.le_ediv_iff_mul_le (by omega)]
      omega
    omega
  · intro h1 h2
    rw [hlen]
    unfold Builtin.Str.tooLong
    rw [decide_eq_false_iff_not, sizeLine_eq, Int.toNat_natCast]
    omega
  · by_cases h1 : (n : Int) < 1
    · rw [if_pos h1]
      have e : n = 0 := by omega
      subst e
      exact ⟨by decide, ⟨.str (S []), H, I.tok _, ⟨_, rfl⟩, q⟩⟩
    · rw [if_neg h1]
      by_cases h2 : ((n : Int) == 1 || (S a).length == 0) = true
      · rw [if_pos h2]
        have e : S a = S (List.replicate n a).flatten := by
          rw [Bool.or_eq_true, beq_iff_eq, beq_iff_eq, hlen] at h2
          rcases h2 with h2 | h2
          · have e : n = 1 := by omega
            subst e
            simp
          · have e : a = [] := List.eq_nil_of_length_eq_zero h2
            subst e
            simp
        exact ⟨.str (S (List.replicate n a).flatten), H, I, ⟨t, by rw [← e]⟩, q⟩
      · rw [if_neg h2]
        have e : (⟨(List.replicate (n : Int).toNat (S a).cps).foldl (· ++ ·) #[]⟩ : Str) = S (List.replicate n a).flatten := by
          refine TL.ext_tl ?_
          show ((List.replicate (n : Int).toNat (S a).cps).foldl (· ++ ·) #[]).toList = _
          rw [foldl_arr, Int.toNat_natCast]
          simp
        rw [e]
        refine ⟨?_, ⟨.str _, H, I.tok _, ⟨_, rfl⟩, q⟩⟩
        try (show _ ≤ sizeLine; rw [SX.S_len]; exact line_le (by simpa [List.length_flatten] using (by rw [Nat.mul_comm]; exact hmul)))
def rMulA : R2 := fun x y H Q => (rI CMul fun i j => .int (i * j)) x y H Q ∨ (rMulS0 x y H Q ∨ rRep x y H Q)
theorem op_mulA : OpR Y (binaryOp .Mult) rMulA := op_mul.or (op_mul_s.or op_rep)
theorem r_mulI {i j : Int} (hc : CMul i j) (q : Q (.int (i * j)) M) : lR rMulA (.int i) (.int j) M Q := fun u v H k s ru rv p => .inl (r_mul hc q u v H k s ru rv p)
theorem r_mulS {a : List Nat} {n : Nat} (hl : a.length * n ≤ 100000) (hn : n ≤ 100000) (q : Q (.str (List.replicate n a).flatten) M) : lR rMulA (.str a) (.int (n : Int)) M Q := fun u v H k s ru rv p => by
  cases ru
  cases rv
  exact .inr (.inl ⟨a, n, rfl, rfl, hl, hn, p _ _ H M q s (Kn.refl _) (.str _)⟩)
theorem RpL.rep {I : Hp} {vs : List V} {ds : List D} (r : RpL I vs ds) : ∀ n : Nat, RpL I (List.replicate n vs).flatten (List.replicate n ds).flatten
  | 0 => .nil
  | n + 1 => by
    rw [List.replicate_succ, List.replicate_succ, List.flatten_cons, List.flatten_cons]
    exact r.append (RpL.rep r n)
theorem r_mulL {x : D} {xs : List D} {n : Nat} (hx : isL M x xs) (hl : xs.length * n ≤ 100000) (hn : n ≤ 100000) (q : Q (.lst (List.replicate n xs).flatten) M) : lR rMulA x (.int (n : Int)) M Q := fun u v H k s ru rv p => by
  cases rv
  obtain ⟨a, vs, rfl, ha, hr⟩ := isL_sq hx s ru
  refine .inr (.inr ⟨a, _, vs, rfl, rfl, ha, by omega, by omega, ?_, fun c hc => ?_⟩)
  · rw [hr.length, Int.toNat_natCast]
    exact line_le hl
  · rw [Int.toNat_natCast]
    exact p _ _ _ M q (s.new hc) (Stp.new hc) (.lst (imm_new s hc) ((hr.rep n).mono (Stp.new hc)))

/-! ### == and != -/
mutual
def toPy : D → PyData
  | .non => .none
  | .bl b => .bool b
  | .int i => .int i
  | .str s => .str (S s)
  | .tup ds => .tuple (toPys ds)
  | .lst ds => .list (toPys ds)
  | _ => .none
def toPys : List D → List PyData
  | [] => []
  | d :: ds => toPy d :: toPys ds
end
mutual
def plain : D → Bool
  | .non | .bl _ | .int _ | .str _ => true
  | .tup ds | .lst ds => plains ds
  | _ => false
def plains : List D → Bool
  | [] => true
  | d :: ds => plain d && plains ds
end
mutual
theorem Rp.dp {K : PySem.W.Frag} {H : Hp} {M : Mh} : ∀ {v : V} {d : D}, plain d = true → Rp (imm H M) v d → Dp K H v (toPy d)
  | _, _, _, .non => .non
  | _, _, _, .bl b => .bl b
  | _, _, _, .int i => .int i
  | _, _, _, .str s => .str _
  | _, _, h, .tup ha hr => .tup (SqT.of (of_imm ha).1) (RpL.dp (by rw [plain] at h; exact h) hr)
  | _, _, h, .lst ha hr => .lst (SqL.of (of_imm ha).1) (RpL.dp (by rw [plain] at h; exact h) hr)
theorem RpL.dp {K : PySem.W.Frag} {H : Hp} {M : Mh} : ∀ {vs : List V} {ds : List D}, plains ds = true → RpL (imm H M) vs ds → DpAll K H vs (toPys ds)
  | _, _, _, .nil => .nil
  | _, _, h, .cons r t => by
    rw [plains, Bool.and_eq_true] at h
    exact .cons (Rp.dp h.1 r) (RpL.dp h.2 t)
end
/-- the data as it is compared: itself, or what a cell holds -/
def asD (M : Mh) (x d : D) : Prop := x = d ∨ ∃ a ds, x = .ref a ∧ M a = some (.lst ds) ∧ d = .lst ds
theorem asD_dp {K : PySem.W.Frag} {H : Hp} {v : V} {x d : D} (h : asD M x d) (hp : plain d = true) (s : Sta M H) (r : Rp (imm H M) v x) : Dp K H v (toPy d) := by
  rcases h with rfl | ⟨a, ds, rfl, m, rfl⟩
  · exact r.dp hp
  · cases r
    obtain ⟨vs, ha, hr⟩ := s.lst m
    exact .lst (SqL.of ha) (hr.dp (by rw [plain] at hp; exact hp))
def okD (d : D) : Bool := plain d && SeqAt.shaped (toPy d)
def rEqA (K : PySem.W.Frag) : R2 := fun x y H Q => rEq x y H Q ∨ rEqD K x y H Q
def rNeA (K : PySem.W.Frag) : R2 := fun x y H Q => rNe x y H Q ∨ rNeD K x y H Q
theorem op_eqA (hu : Y.A.units + 64 < cLine) : OpR Y (compareOp .Eq) (rEqA Y.K) := op_eq.or (op_eqD hu)
theorem op_neA (hu : Y.A.units + 64 < cLine) : OpR Y (compareOp .NotEq) (rNeA Y.K) := op_ne.or (op_neD hu)
theorem S_dec {a b : List Nat} : decide (V.str (S a) = V.str (S b)) = decide (a = b) := by
  by_cases h : a = b
  · subst h
    rw [decide_eq_true rfl, decide_eq_true rfl]
  · rw [decide_eq_false h, decide_eq_false (fun z => h (SX.S_inj (V.str.inj z)))]
theorem r_eqS {a b : List Nat} (q : Q (.bl (decide (a = b))) M) : lR (rEqA K) (.str a) (.str b) M Q := fun u v H k s ru rv p => by
  cases ru
  cases rv
  refine .inl ⟨rfl, ?_⟩
  rw [S_dec]
  exact p _ _ H M q s (Kn.refl _) (.bl _)
theorem r_neS {a b : List Nat} (q : Q (.bl (!decide (a = b))) M) : lR (rNeA K) (.str a) (.str b) M Q := fun u v H k s ru rv p => by
  cases ru
  cases rv
  refine .inl ⟨rfl, ?_⟩
  rw [S_dec]
  exact p _ _ H M q s (Kn.refl _) (.bl _)
theorem I_dec {a b : Int} : decide (V.int a = V.int b) = decide (a = b) := by
  by_cases h : a = b
  · subst h
    rw [decide_eq_true rfl, decide_eq_true rfl]
  · rw [decide_eq_false h, decide_eq_false (fun z => h (V.int.inj z))]
theorem r_eqI {a b : Int} (q : Q (.bl (decide (a = b))) M) : lR (rEqA K) (.int a) (.int b) M Q := fun u v H k s ru rv p => by
  cases ru
  cases rv
  refine .inl ⟨rfl, ?_⟩
  rw [I_dec]
  exact p _ _ H M q s (Kn.refl _) (.bl _)
theorem r_neI {a b : Int} (q : Q (.bl (!decide (a = b))) M) : lR (rNeA K) (.int a) (.int b) M Q := fun u v H k s ru rv p => by
  cases ru
  cases rv
  refine .inl ⟨rfl, ?_⟩
  rw [I_dec]
  exact p _ _ H M q s (Kn.refl _) (.bl _)
theorem r_eqB {a b : Bool} (q : Q (.bl (decide (a = b))) M) : lR (rEqA K) (.bl a) (.bl b) M Q := fun u v H k s ru rv p => by
  cases ru
  cases rv
  refine .inl ⟨rfl, ?_⟩
  have e : decide (V.bl a = V.bl b) = decide (a = b) := by cases a <;> cases b <;> rfl
  rw [e]
  exact p _ _ H M q s (Kn.refl _) (.bl _)
theorem r_neB {a b : Bool} (q : Q (.bl (!decide (a = b))) M) : lR (rNeA K) (.bl a) (.bl b) M Q := fun u v H k s ru rv p => by
  cases ru
  cases rv
  refine .inl ⟨rfl, ?_⟩
  have e : decide (V.bl a = V.bl b) = decide (a = b) := by cases a <;> cases b <;> rfl
  rw [e]
  exact p _ _ H M q s (Kn.refl _) (.bl _)
theorem ok_and {d : D} (h : okD d = true) : plain d = true ∧ SeqAt.shaped (toPy d) = true := Bool.and_eq_true_iff.mp h
theorem r_eqD {x y d e : D} (hx : asD M x d) (hy : asD M y e) (hd : okD d = true) (he : okD e = true) (q : Q (.bl (PyData.eqv (toPy d) (toPy e))) M) : lR (rEqA K) x y M Q := fun u v H k s ru rv p =>
  .inr ⟨_, _, asD_dp hx (ok_and hd).1 s ru, asD_dp hy (ok_and he).1 s rv, (ok_and hd).2, (ok_and he).2, p _ _ H M q s (Kn.refl _) (.bl _)⟩
theorem r_neD {x y d e : D} (hx : asD M x d) (hy : asD M y e) (hd : okD d = true) (he : okD e = true) (q : Q (.bl (!PyData.eqv (toPy d) (toPy e))) M) : lR (rNeA K) x y M Q := fun u v H k s ru rv p =>
  .inr ⟨_, _, asD_dp hx (ok_and hd).1 s ru, asD_dp hy (ok_and he).1 s rv, (ok_and hd).2, (ok_and he).2, p _ _ H M q s (Kn.refl _) (.bl _)⟩
theorem eqv_ok {d : D} (h : okD d = true) : PyData.eqv (toPy d) (toPy d) = true := by
  have z := (ok_and h).2
  unfold SeqAt.shaped at z
  exact SeqAt.eqv_refl _ (Bool.and_eq_true_iff.mp z).1
/-- the same data -/
theorem r_eqR {x y d : D} (hx : asD M x d) (hy : asD M y d) (hd : okD d = true) (q : Q (.bl true) M) : lR (rEqA K) x y M Q := r_eqD hx hy hd hd (by rw [eqv_ok hd]; exact q)
theorem r_neR {x y d : D} (hx : asD M x d) (hy : asD M y d) (hd : okD d = true) (q : Q (.bl false) M) : lR (rNeA K) x y M Q := r_neD hx hy hd hd (by rw [eqv_ok hd]; exact q)
theorem asD_self {x : D} : asD M x x := .inl rfl
theorem asD_ref {a : Addr} {ds : List D} (h : M a = some (.lst ds)) : asD M (.ref a) (.lst ds) := .inr ⟨a, ds, rfl, h, rfl⟩
end

/-! ### flat data: none, truths, whole numbers, texts -/
def flatD : D → Bool
  | .non | .bl _ | .int _ | .str _ => true
  | _ => false
def eqF : D → D → Bool
  | .non, .non => true
  | .bl a, .bl b => a == b
  | .bl a, .int b => (if a then 1 else 0) == b
  | .int a, .bl b => a == (if b then 1 else 0)
  | .int a, .int b => a == b
  | .str a, .str b => a == b
  | _, _ => false
theorem flat_rp {I : Hp} {v : V} {d : D} (f : flatD d = true) (r : Rp I v d) : flatV v = true := by
  cases r <;> first | rfl | cases f
theorem flats_rp {I : Hp} : ∀ {vs : List V} {ds : List D}, ds.all flatD = true → RpL I vs ds → vs.all flatV = true
  | _, _, _, .nil => rfl
  | _, _, h, .cons r t => by
    rw [List.all_cons, Bool.and_eq_true] at h
    rw [List.all_cons, Bool.and_eq_true]
    exact ⟨flat_rp h.1 r, flats_rp h.2 t⟩
theorem eqF_rp {I : Hp} {v w : V} {d e : D} (f : flatD d = true) (g : flatD e = true) (r : Rp I v d) (q : Rp I w e) : eqV v w = eqF d e := by
  cases r <;> first
    | cases f; done
    | (cases q <;> first
        | rfl
        | (cases g; done)
        | exact SX.S_beq _ _)
theorem any_rp {I : Hp} {x : V} {d : D} (f : flatD d = true) (r : Rp I x d) : ∀ {vs : List V} {ds : List D}, ds.all flatD = true → RpL I vs ds → inV x vs = ds.any fun e => eqF e d
  | _, _, _, .nil => rfl
  | _, _, h, .cons r' t => by
    rw [List.all_cons, Bool.and_eq_true] at h
    have ih := any_rp f r h.2 t
    unfold inV at ih ⊢
    rw [List.any_cons, List.any_cons, ih, eqF_rp h.1 f r' r]
theorem count_rp {I : Hp} {x : V} {d : D} (f : flatD d = true) (r : Rp I x d) : ∀ {vs : List V} {ds : List D}, ds.all flatD = true → RpL I vs ds → vs.countP (fun y => eqV y x) = ds.countP fun e => eqF e d
  | _, _, _, .nil => rfl
  | _, _, h, .cons r' t => by
    rw [List.all_cons, Bool.and_eq_true] at h
    rw [List.countP_cons, List.countP_cons, count_rp f r h.2 t, eqF_rp h.1 f r' r]
theorem all_strs (xs : List (List Nat)) : (xs.map D.str).all flatD = true := by
  induction xs with
  | nil => rfl
  | cons x xs ih => rw [List.map_cons, List.all_cons, ih]; rfl
theorem all_ints (xs : List Int) : (xs.map D.int).all flatD = true := by
  induction xs with
  | nil => rfl
  | cons x xs ih => rw [List.map_cons, List.all_cons, ih]; rfl
theorem any_strs (x : List Nat) (xs : List (List Nat)) : ((xs.map D.str).any fun e => eqF e (.str x)) = decide (x ∈ xs) := by
  induction xs with
  | nil => rfl
  | cons y xs ih =>
    rw [List.map_cons, List.any_cons, ih]
    show (y == x || decide (x ∈ xs)) = decide (x ∈ y :: xs)
    by_cases h : y = x
    · subst h
      simp
    · have h' : ¬ x = y := fun z => h z.symm
      have h2 : (y == x) = false := by simpa using h
      rw [h2, Bool.false_or]
      by_cases hm : x ∈ xs
      · rw [decide_eq_true hm, decide_eq_true (List.mem_cons_of_mem _ hm)]
      · rw [decide_eq_false hm, decide_eq_false (fun z => (List.mem_cons.mp z).elim h' hm)]
theorem any_ints (x : Int) (xs : List Int) : ((xs.map D.int).any fun e => eqF e (.int x)) = decide (x ∈ xs) := by
  induction xs with
  | nil => rfl
  | cons y xs ih =>
    rw [List.map_cons, List.any_cons, ih]
    show (y == x || decide (x ∈ xs)) = decide (x ∈ y :: xs)
    by_cases h : y = x
    · subst h
      simp
    · have h' : ¬ x = y := fun z => h z.symm
      have h2 : (y == x) = false := by simpa using h
      rw [h2, Bool.false_or]
      by_cases hm : x ∈ xs
      · rw [decide_eq_true hm, decide_eq_true (List.mem_cons_of_mem _ hm)]
      · rw [decide_eq_false hm, decide_eq_false (fun z => (List.mem_cons.mp z).elim h' hm)]

section
variable {W : WX} {X : XD} {ρ : En} {M : Mh} {Q : D → Mh → Prop} {A : DE} {K : PySem.W.Frag} {Y : Cx}
/-! ### in -/
def rInS0 : R2 := fun x y H Q => ∃ i j, x = .str i ∧ y = .str j ∧ Q (.bl (!(Builtin.Str.occurrences j i 0 j.length 1).isEmpty)) H
def rNinS0 : R2 := fun x y H Q => ∃ i j, x = .str i ∧ y = .str j ∧ Q (.bl (!(!(Builtin.Str.occurrences j i 0 j.length 1).isEmpty))) H
def rInA (K : PySem.W.Frag) : R2 := fun x y H Q => rInS0 x y H Q ∨ rIn K false x y H Q
def rNinA (K : PySem.W.Frag) : R2 := fun x y H Q => rNinS0 x y H Q ∨ rIn K true x y H Q
theorem op_inA : OpR Y (compareOp .In) (rInA Y.K) := (show OpR Y (compareOp .In) rInS0 from op_in_str).or op_in_seq
theorem op_ninA : OpR Y (compareOp .NotIn) (rNinA Y.K) := (show OpR Y (compareOp .NotIn) rNinS0 from op_notin_str).or op_notIn_seq
theorem r_inS {a b : List Nat} (q : Q (.bl (hasT a b)) M) : lR (rInA K) (.str a) (.str b) M Q := fun u v H k s ru rv p => by
  cases ru
  cases rv
  refine .inl ⟨_, _, rfl, rfl, ?_⟩
  rw [occ_has]
  exact p _ _ H M q s (Kn.refl _) (.bl _)
theorem r_ninS {a b : List Nat} (q : Q (.bl (!hasT a b)) M) : lR (rNinA K) (.str a) (.str b) M Q := fun u v H k s ru rv p => by
  cases ru
  cases rv
  refine .inl ⟨_, _, rfl, rfl, ?_⟩
  rw [occ_has]
  exact p _ _ H M q s (Kn.refl _) (.bl _)
/-- a list or a tuple of these -/
def isSq (M : Mh) (d : D) (ds : List D) : Prop := isL M d ds ∨ d = .tup ds
theorem isSq_sq {H : Hp} {v : V} {d : D} {ds : List D} (h : isSq M d ds) (s : Sta M H) (r : Rp (imm H M) v d) : ∃ a vs, v = .ref a ∧ (SqL K H a vs ∨ SqT K H a vs) ∧ RpL (imm H M) vs ds := by
  rcases h with h | rfl
  · obtain ⟨a, vs, e, ha, hr⟩ := isL_sq h s r
    exact ⟨a, vs, e, .inl (SqL.of ha), hr⟩
  · cases r with
    | tup ha hr => exact ⟨_, _, rfl, .inr (SqT.of (of_imm ha).1), hr⟩
theorem r_in {x y : D} {ds : List D} (hy : isSq M y ds) (hx : flatD x = true) (hd : ds.all flatD = true) (q : Q (.bl (ds.any fun e => eqF e x)) M) : lR (rInA K) x y M Q := fun u v H k s ru rv p => by
  obtain ⟨a, vs, rfl, ha, hr⟩ := isSq_sq (K := K) hy s rv
  refine .inr ⟨a, vs, rfl, ha, flat_rp hx ru, flats_rp hd hr, ?_⟩
  rw [if_neg Bool.false_ne_true, any_rp hx ru hd hr]
  exact p _ _ H M q s (Kn.refl _) (.bl _)
theorem r_nin {x y : D} {ds : List D} (hy : isSq M y ds) (hx : flatD x = true) (hd : ds.all flatD = true) (q : Q (.bl (!(ds.any fun e => eqF e x))) M) : lR (rNinA K) x y M Q := fun u v H k s ru rv p => by
  obtain ⟨a, vs, rfl, ha, hr⟩ := isSq_sq (K := K) hy s rv
  refine .inr ⟨a, vs, rfl, ha, flat_rp hx ru, flats_rp hd hr, ?_⟩
  rw [if_pos rfl, any_rp hx ru hd hr]
  exact p _ _ H M q s (Kn.refl _) (.bl _)
theorem r_inSs {x : List Nat} {y : D} {xs : List (List Nat)} (hy : isSq M y (xs.map D.str)) (q : Q (.bl (decide (x ∈ xs))) M) : lR (rInA K) (.str x) y M Q := r_in hy rfl (all_strs xs) (by rw [any_strs]; exact q)
theorem r_ninSs {x : List Nat} {y : D} {xs : List (List Nat)} (hy : isSq M y (xs.map D.str)) (q : Q (.bl (!decide (x ∈ xs))) M) : lR (rNinA K) (.str x) y M Q := r_nin hy rfl (all_strs xs) (by rw [any_strs]; exact q)
/-! ### [i] -/
theorem ix_get {I : Hp} {vs : List V} {ds : List D} {i : Int} {d : D} (r : RpL I vs ds) (h : atI ds i = some d) : ∃ v, atI vs i = some v ∧ Rp I v d := by
  unfold atI at h ⊢
  rw [r.length]
  cases e : ixN ds.length i with
  | none =>
    rw [e] at h
    cases h
  | some j =>
    rw [e] at h
    obtain ⟨v, hv, rv⟩ := r.getD (i := j) (d := d) h
    exact ⟨v, hv, rv⟩
theorem r_ix {x : D} {ds : List D} {i : Int} {d : D} (hx : isSq M x ds) (h : atI ds i = some d) (q : Q d M) : lR (rIx K) x (.int i) M Q := fun u v H k s ru rv p => by
  cases rv
  obtain ⟨a, vs, rfl, ha, hr⟩ := isSq_sq (K := K) hx s ru
  obtain ⟨w, hw, rw'⟩ := ix_get hr h
  rcases ha with ha | ha
  · exact .inl ⟨a, vs, i, w, rfl, rfl, ha, hw, p _ _ H M q s (Kn.refl _) rw'⟩
  · exact .inr (.inl ⟨a, vs, i, w, rfl, rfl, ha, hw, p _ _ H M q s (Kn.refl _) rw'⟩)
theorem r_ixS {a : List Nat} {i : Int} {c : Nat} (hl : a.length ≤ 100000) (h : atI a i = some c) (q : Q (.str [c]) M) : lR (rIx K) (.str a) (.int i) M Q := fun u v H k s ru rv p => by
  cases ru
  cases rv
  exact .inr (.inr ⟨_, i, c, rfl, rfl, by rw [SX.S_len]; exact line_le hl, h, p _ _ H M q s (Kn.refl _) (.str [c])⟩)
theorem at_nat {α : Type} {xs : List α} {j : Nat} {v : α} (h : xs[j]? = some v) : atI xs (j : Int) = some v := atI_nat h
/-- the script: a list that is only read -/
def scr (K : PySem.W.Frag) (ns : List Int) : D := .opq fun v I => ∃ a, v = .ref a ∧ SqL K I a (ns.map V.int)
theorem Kn.seq {I I' : Hp} (k : Kn I I') {a : Addr} {xs : List V} (h : SqL K I a xs) : SqL K I' a xs := by
  rcases h with (h | ⟨o, h⟩) | h
  · exact .inl (.inl (k _ _ h))
  · exact .inl (.inr ⟨o, k _ _ h⟩)
  · exact .inr h
theorem imm_kn {H : Hp} : Kn (imm H M) H := fun a o h => (of_imm h).1
theorem scr_rp {I : Hp} {a : Addr} {ns : List Int} (h : SqL K I a (ns.map V.int)) : Rp I (.ref a) (scr K ns) := .opq ⟨a, rfl, h⟩ fun I I' k ⟨b, e, q⟩ => ⟨b, e, k.seq q⟩
theorem scr_of {H : Hp} {v : V} {ns : List Int} (r : Rp (imm H M) v (scr K ns)) : ∃ a, v = .ref a ∧ SqL K H a (ns.map V.int) := by
  cases r with
  | opq h _ =>
    obtain ⟨a, e, q⟩ := h
    exact ⟨a, e, imm_kn.seq q⟩
theorem r_ixC {ns : List Int} {i n : Int} (h : atI ns i = some n) (q : Q (.int n) M) : lR (rIx K) (scr K ns) (.int i) M Q := fun u v H k s ru rv p => by
  cases rv
  obtain ⟨a, rfl, ha⟩ := scr_of ru
  refine .inl ⟨a, _, i, .int n, rfl, rfl, ha, ?_, p _ _ H M q s (Kn.refl _) (.int n)⟩
  unfold atI at h ⊢
  rw [List.length_map]
  cases e : ixN ns.length i with
  | none =>
    rw [e] at h
    cases h
  | some j =>
    rw [e] at h
    have h' : ns[j]? = some n := h
    show (ns.map V.int)[j]? = _
    rw [List.getElem?_map, h']
    rfl
theorem tru_scr {ns : List Int} : ∀ u H1, Sta M H1 → Rp (imm H1 M) u (scr K ns) → TruV K u H1 (!ns.isEmpty) := fun u H1 s r => by
  obtain ⟨a, rfl, ha⟩ := scr_of r
  refine .inl ⟨_, ha, ?_⟩
  cases ns <;> rfl
/-! ### slices -/
def rSlA (K : PySem.W.Frag) : V → Option Int → Option Int → Hp → VK → Prop := fun x lo hi H Q => rSlL K x lo hi H Q ∨ (rSlT K x lo hi H Q ∨ rSlS x lo hi H Q)
theorem sl_A : SlR Y (rSlA Y.K) := sl_list.or (sl_tup.or sl_str)
theorem sl_L {x : D} {ds : List D} {lo hi : Option Int} (hx : isL M x ds) (q : Q (.lst (cutL ds lo hi)) M) : lSl (rSlA K) x lo hi M Q := fun u H k s ru p => by
  obtain ⟨a, vs, rfl, ha, hr⟩ := isL_sq hx s ru
  exact .inl ⟨a, vs, rfl, SqL.of ha, fun c hc => p _ _ _ M q (s.new hc) (Stp.new hc) (.lst (imm_new s hc) ((hr.cut lo hi).mono (Stp.new hc)))⟩
theorem sl_LM {x : D} {ds : List D} {lo hi : Option Int} (hx : isL M x ds) (q : ∀ a, M a = none → Q (.ref a) (upM M a (.lst (cutL ds lo hi)))) : lSl (rSlA K) x lo hi M Q := fun u H k s ru p => by
  obtain ⟨a, vs, rfl, ha, hr⟩ := isL_sq hx s ru
  exact .inl ⟨a, vs, rfl, SqL.of ha, fun c hc => p _ _ _ _ (q c (s.fresh hc)) (s.newC hc ⟨_, rfl, hr.cut lo hi⟩) (Stp.newC hc) (.ref c)⟩
theorem sl_S {z : List Nat} {lo hi : Option Int} (hl : z.length ≤ 100000) (q : Q (.str (cutL z lo hi)) M) : lSl (rSlA K) (.str z) lo hi M Q := fun u H k s ru p => by
  cases ru
  refine .inr (.inr ⟨_, rfl, by rw [SX.S_len]; exact line_le hl, ?_⟩)
  rw [cutS_cutL]
  exact p _ _ H M q s (Kn.refl _) (.str _)
theorem cut_to {α : Type} {xs : List α} {n : Nat} : cutL xs none (some (n : Int)) = xs.take n := by
  unfold cutL
  rw [HT.sIx_none, HT.sIx_nat, List.drop_zero, Nat.sub_zero]
  by_cases h : n ≤ xs.length
  · rw [Nat.min_eq_left h]
  · rw [Nat.min_eq_right (by omega), List.take_of_length_le (Nat.le_refl _), List.take_of_length_le (by omega)]
theorem cut_from {α : Type} {xs : List α} {n : Nat} : cutL xs (some (n : Int)) none = xs.drop n := by
  unfold cutL
  rw [HT.sIx_none, HT.sIx_nat]
  by_cases h : n ≤ xs.length
  · rw [Nat.min_eq_left h]
    exact List.take_of_length_le (by rw [List.length_drop]; omega)
  · rw [Nat.min_eq_right (by omega), List.drop_of_length_le (Nat.le_refl _), List.drop_of_length_le (by omega), List.take_nil]
theorem cut_mid {α : Type} {xs : List α} {m n : Nat} : cutL xs (some (m : Int)) (some ((m + n : Nat) : Int)) = (xs.drop m).take n := by
  unfold cutL
  rw [HT.sIx_nat, HT.sIx_nat]
  by_cases h : m ≤ xs.length
  · rw [Nat.min_eq_left h]
    by_cases h2 : m + n ≤ xs.length
    · rw [Nat.min_eq_left h2, show m + n - m = n by omega]
    · rw [Nat.min_eq_right (by omega), List.take_of_length_le (by rw [List.length_drop]; omega), List.take_of_length_le (by rw [List.length_drop]; omega)]
  · have e1 : min (m + n) xs.length = xs.length := Nat.min_eq_right (by omega)
    have e2 : min m xs.length = xs.length := Nat.min_eq_right (by omega)
    rw [e1, e2, List.drop_of_length_le (Nat.le_refl _), List.drop_of_length_le (by omega : xs.length ≤ m), List.take_nil, List.take_nil]
theorem cut_butlast {α : Type} {xs : List α} : cutL xs none (some (-1)) = xs.dropLast := by
  unfold cutL
  rw [HT.sIx_none, List.drop_zero, Nat.sub_zero, List.dropLast_eq_take]
  have e : HT.sIx xs.length xs.length (some (-1)) = xs.length - 1 := by
    have h := HT.clip_eq (-1) xs.length xs.length
    rw [if_pos (by omega)] at h
    omega
  rw [e]
theorem cut_last {α : Type} {xs : List α} : cutL xs (some (-1)) none = xs.drop (xs.length - 1) := by
  unfold cutL
  rw [HT.sIx_none]
  have e : HT.sIx xs.length 0 (some (-1)) = xs.length - 1 := by
    have h := HT.clip_eq (-1) xs.length 0
    rw [if_pos (by omega)] at h
    omega
  rw [e]
  exact List.take_of_length_le (by rw [List.length_drop]; omega)
/-! ### len -/
def rLenA (K : PySem.W.Frag) : List V → Hp → VK → Prop := fun xs H Q => (∃ x n, xs = [x] ∧ LenV K x H n ∧ Q (.int (n : Nat)) H) ∨ ∃ a kvs, xs = [.ref a] ∧ H a = some (.dK kvs) ∧ Q (.int (kvs.length : Nat)) H
theorem c_lenS {a : List Nat} (hl : a.length ≤ 100000) (q : Q (.int (a.length : Int)) M) : lC (rLenA K) [.str a] M Q := fun us H k s r p => by
  cases r with
  | cons r1 r2 =>
    cases r2
    cases r1
    refine .inl ⟨_, _, rfl, ⟨by rw [SX.S_len]; exact line_le hl, rfl⟩, ?_⟩
    rw [SX.S_len]
    exact p _ _ H M q s (Kn.refl _) (.int _)
theorem c_len {x : D} {ds : List D} (hx : isSq M x ds) (q : Q (.int (ds.length : Int)) M) : lC (rLenA K) [x] M Q := fun us H k s r p => by
  cases r with
  | cons r1 r2 =>
    cases r2
    obtain ⟨a, vs, rfl, ha, hr⟩ := isSq_sq (K := K) hx s r1
    refine .inl ⟨_, vs.length, rfl, ?_, ?_⟩
    · rcases ha with ha | ha
      · exact .inl ⟨vs, ha, rfl⟩
      · exact .inr ⟨vs, ha, rfl⟩
    · rw [hr.length]
      exact p _ _ H M q s (Kn.refl _) (.int _)
theorem c_lenC {ns : List Int} (q : Q (.int (ns.length : Int)) M) : lC (rLenA K) [scr K ns] M Q := fun us H k s r p => by
  cases r with
  | cons r1 r2 =>
    cases r2
    obtain ⟨a, rfl, ha⟩ := scr_of r1
    refine .inl ⟨_, (ns.map V.int).length, rfl, .inl ⟨_, ha, rfl⟩, ?_⟩
    rw [List.length_map]
    exact p _ _ H M q s (Kn.refl _) (.int _)
theorem c_lenD {a : Addr} {kvs : List (Key × D)} (h : M a = some (.dic kvs)) (q : Q (.int (kvs.length : Int)) M) : lC (rLenA K) [.ref a] M Q := fun us H k s r p => by
  cases r with
  | cons r1 r2 =>
    cases r2
    cases r1
    obtain ⟨vs, ha, hr⟩ := s.dic h
    refine .inr ⟨a, vs, rfl, ha, ?_⟩
    rw [hr.length]
    exact p _ _ H M q s (Kn.refl _) (.int _)
theorem cr_lenA : CallR Y (.builtin "len") (rLenA Y.K) := by
  intro pins s σ H xs us Q I r h
  rcases h with h | ⟨a, kvs, e, ha, q⟩
  · exact call_len pins s σ H xs us Q I r h
  · exact call_lenD pins s σ H xs us Q I r ⟨a, kvs, e, ha, q⟩
/-! ### all, ord, list, tuple, min, max -/
theorem c_all {x : D} {bs : List Bool} (hx : isL M x (bs.map D.bl)) (q : Q (.bl (bs.all id)) M) : lC (rAll K) [x] M Q := fun us H k s r p => by
  cases r with
  | cons r1 r2 =>
    cases r2
    obtain ⟨a, vs, rfl, ha, hr⟩ := isL_sq hx s r1
    have e := hr.to_bls
    subst e
    exact ⟨a, bs, rfl, SqL.of ha, p _ _ H M q s (Kn.refl _) (.bl _)⟩
def rOrd : List V → Hp → VK → Prop := fun xs H Q => ∃ x : Str, xs = [.str x] ∧ x.length = 1 ∧ Q (.int (x.cps.getD 0 0 : Nat)) H
theorem cr_ord : CallR Y (.builtin "ord") rOrd := call_ord
theorem c_ord {c : Nat} (q : Q (.int (c : Int)) M) : lC rOrd [.str [c]] M Q := fun us H k s r p => by
  cases r with
  | cons r1 r2 =>
    cases r2
    cases r1
    exact ⟨S [c], rfl, rfl, p _ _ H M q s (Kn.refl _) (.int _)⟩
def rListA (K : PySem.W.Frag) : List V → Hp → VK → Prop := fun xs H Q => ∃ p ys, xs = [.ref p] ∧ (SqL K H p ys ∨ SqT K H p ys) ∧ ∀ l, H l = none → Q (.ref l) (upd H l (.lst ys))
theorem cr_listA : CallR Y (.type "list") (rListA Y.K) := call_list_of
theorem c_list {x : D} {ds : List D} (hx : isSq M x ds) (q : Q (.lst ds) M) : lC (rListA K) [x] M Q := fun us H k s r p => by
  cases r with
  | cons r1 r2 =>
    cases r2
    obtain ⟨a, vs, rfl, ha, hr⟩ := isSq_sq (K := K) hx s r1
    exact ⟨a, vs, rfl, ha, fun c hc => p _ _ _ M q (s.new hc) (Stp.new hc) (.lst (imm_new s hc) (hr.mono (Stp.new hc)))⟩
theorem c_listM {x : D} {ds : List D} (hx : isSq M x ds) (q : ∀ a, M a = none → Q (.ref a) (upM M a (.lst ds))) : lC (rListA K) [x] M Q := fun us H k s r p => by
  cases r with
  | cons r1 r2 =>
    cases r2
    obtain ⟨a, vs, rfl, ha, hr⟩ := isSq_sq (K := K) hx s r1
    exact ⟨a, vs, rfl, ha, fun c hc => p _ _ _ _ (q c (s.fresh hc)) (s.newC hc ⟨_, rfl, hr⟩) (Stp.newC hc) (.ref c)⟩
def rTupA (K : PySem.W.Frag) : List V → Hp → VK → Prop := fun xs H Q => ∃ p ys, xs = [.ref p] ∧ ((SqL K H p ys ∧ ∀ l, H l = none → Q (.ref l) (upd H l (.tup ys))) ∨ (SqT K H p ys ∧ Q (.ref p) H))
theorem cr_tupA : CallR Y (.type "tuple") (rTupA Y.K) := call_tuple_of
theorem c_tuple {x : D} {ds : List D} (hx : isL M x ds) (q : Q (.tup ds) M) : lC (rTupA K) [x] M Q := fun us H k s r p => by
  cases r with
  | cons r1 r2 =>
    cases r2
    obtain ⟨a, vs, rfl, ha, hr⟩ := isL_sq hx s r1
    exact ⟨a, vs, rfl, .inl ⟨SqL.of ha, fun c hc => p _ _ _ M q (s.new hc) (Stp.new hc) (.tup (imm_new s hc) (hr.mono (Stp.new hc)))⟩⟩
def rMax2 : List V → Hp → VK → Prop := fun xs H Q => ∃ i j : Int, xs = [.int i, .int j] ∧ Q (.int (if j > i then j else i)) H
def rMin2 : List V → Hp → VK → Prop := fun xs H Q => ∃ i j : Int, xs = [.int i, .int j] ∧ Q (.int (if j < i then j else i)) H
theorem cr_max2 (hc : Y.calm = true) : CallR Y (.builtin "max") rMax2 := call_max2 hc
theorem cr_min2 (hc : Y.calm = true) : CallR Y (.builtin "min") rMin2 := call_min2 hc
theorem c_max2 {i j : Int} (q : Q (.int (if j > i then j else i)) M) : lC rMax2 [.int i, .int j] M Q := fun us H k s r p => by
  cases r with
  | cons r1 r2 =>
    cases r2 with
    | cons r2 r3 =>
      cases r3
      cases r1
      cases r2
      exact ⟨i, j, rfl, p _ _ H M q s (Kn.refl _) (.int _)⟩
theorem c_min2 {i j : Int} (q : Q (.int (if j < i then j else i)) M) : lC rMin2 [.int i, .int j] M Q := fun us H k s r p => by
  cases r with
  | cons r1 r2 =>
    cases r2 with
    | cons r2 r3 =>
      cases r3
      cases r1
      cases r2
      exact ⟨i, j, rfl, p _ _ H M q s (Kn.refl _) (.int _)⟩
/-! ### methods of texts -/
def rLower : V → List V → Hp → VK → Prop := fun x xs H Q => ∃ a, x = .str a ∧ xs = [] ∧ a.length ≤ 5592405 ∧ Q (.str (PySem.Txt.lower a)) H
def rUpper : V → List V → Hp → VK → Prop := fun x xs H Q => ∃ a, x = .str a ∧ xs = [] ∧ a.length ≤ 5592405 ∧ Q (.str (PySem.Txt.upper a)) H
def rStarts : V → List V → Hp → VK → Prop := fun x xs H Q => ∃ a b, x = .str a ∧ xs = [.str b] ∧ Q (.bl (PySem.Txt.startswith a b)) H
def rFind : V → List V → Hp → VK → Prop := fun x xs H Q => ∃ a b, x = .str a ∧ xs = [.str b] ∧ Q (.int (PySem.Txt.find a b)) H
def rSplit : V → List V → Hp → VK → Prop := fun x xs H Q => ∃ a b, x = .str a ∧ xs = [.str b] ∧ (b.length == 0) = false ∧ a.length + 2 ≤ sizeLine ∧ rNewStrs (PySem.Txt.split a b) H Q
def rJoin (K : PySem.W.Frag) : V → List V → Hp → VK → Prop := fun x xs H Q => ∃ a p, ∃ ys : List Str, x = .str a ∧ xs = [.ref p] ∧ (SqL K H p (ys.map V.str) ∨ SqT K H p (ys.map V.str)) ∧ (ys.map (·.length)).sum + ys.length * a.length ≤ 16777216 ∧ Q (.str (PySem.Txt.join a ys)) H
theorem mt_lowerD : MtR Y "str.lower" rLower := mt_lower
theorem mt_upperD : MtR Y "str.upper" rUpper := mt_upper
theorem mt_startsD : MtR Y "str.startswith" rStarts := mt_startswith
theorem mt_findD : MtR Y "str.find" rFind := mt_find
theorem mt_splitD : MtR Y "str.split" rSplit := mt_split
theorem mt_joinD : MtR Y "str.join" (rJoin Y.K) := mt_join
/-- plain letters -/
def asc (a : List Nat) : Bool := a.all (· < 128)
theorem m_lower {a : List Nat} (h : asc a = true) (hl : a.length ≤ 100000) (q : Q (.str (a.map PyProof.Rows.lo1)) M) : lM rLower (.str a) [] M Q := fun u us H k s ru rs p => by
  cases ru
  cases rs
  refine ⟨_, rfl, rfl, by rw [SX.S_len]; omega, ?_⟩
  rw [SX.lower_S h]
  exact p _ _ H M q s (Kn.refl _) (.str _)
theorem m_upper {a : List Nat} (h : asc a = true) (hl : a.length ≤ 100000) (q : Q (.str (a.map PyProof.Rows.up1)) M) : lM rUpper (.str a) [] M Q := fun u us H k s ru rs p => by
  cases ru
  cases rs
  refine ⟨_, rfl, rfl, by rw [SX.S_len]; omega, ?_⟩
  rw [SX.upper_S h]
  exact p _ _ H M q s (Kn.refl _) (.str _)
theorem m_starts {a b : List Nat} (q : Q (.bl (isAt b a 0)) M) : lM rStarts (.str a) [.str b] M Q := fun u us H k s ru rs p => by
  cases ru
  cases rs with
  | cons r1 r2 =>
    cases r2
    cases r1
    refine ⟨_, _, rfl, rfl, ?_⟩
    rw [starts_is]
    exact p _ _ H M q s (Kn.refl _) (.bl _)
def findI (y x : List Nat) : Int := match findAt y x with | some i => (i : Int) | none => -1
theorem m_find {a b : List Nat} (q : Q (.int (findI b a)) M) : lM rFind (.str a) [.str b] M Q := fun u us H k s ru rs p => by
  cases ru
  cases rs with
  | cons r1 r2 =>
    cases r2
    cases r1
    refine ⟨_, _, rfl, rfl, ?_⟩
    rw [find_is]
    exact p _ _ H M q s (Kn.refl _) (.int _)
theorem m_split {a b : List Nat} (hb : b ≠ []) (hk : b.all (· < 256) = true) (hl : a.length ≤ 100000) (q : Q (.lst ((TL.spl b 0 [] a).map D.str)) M) : lM rSplit (.str a) [.str b] M Q := fun u us H k s ru rs p => by
  cases ru
  cases rs with
  | cons r1 r2 =>
    cases r2
    cases r1
    refine ⟨_, _, rfl, rfl, ?_, ?_, fun c hc => ?_⟩
    · rw [SX.S_len]
      cases b with
      | nil => exact absurd rfl hb
      | cons x r => rfl
    · rw [SX.S_len]
      rw [sizeLine_eq]
      omega
    · rw [SX.split_S hb hk, List.map_map]
      exact p _ _ _ M q (s.new hc) (Stp.new hc) (.lst (imm_new s hc) (RpL.strs _))
theorem sum_lens (ys : List (List Nat)) : ((ys.map S).map (·.length)).sum = (ys.map (·.length)).sum := by
  rw [SX.lens]
theorem m_join {a : List Nat} {x : D} {ys : List (List Nat)} (hx : isSq M x (ys.map D.str)) (hl : (ys.map (·.length)).sum + ys.length * a.length ≤ 100000) (q : Q (.str (TL.joinL a ys)) M) : lM (rJoin K) (.str a) [x] M Q := fun u us H k s ru rs p => by
  cases ru
  cases rs with
  | cons r1 r2 =>
    cases r2
    obtain ⟨b, vs, rfl, hb, hr⟩ := isSq_sq (K := K) hx s r1
    have e := hr.to_strs
    subst e
    have em : (ys.map fun x => V.str (S x)) = (ys.map S).map V.str := by rw [List.map_map]; rfl
    refine ⟨_, b, ys.map S, rfl, rfl, by rw [← em]; exact hb, ?_, ?_⟩
    · rw [sum_lens, List.length_map, SX.S_len]
      omega
    · rw [SX.join_S]
      exact p _ _ H M q s (Kn.refl _) (.str _)
/-! ### methods of lists -/
theorem m_append {a : Addr} {ds : List D} {d : D} (h : M a = some (.lst ds)) (hl : ds.length ≤ 100000) (q : Q .non (upM M a (.lst (ds ++ [d])))) : lM rAppend (.ref a) [d] M Q := fun u us H k s ru rs p => by
  cases ru
  cases rs with
  | cons r1 r2 =>
    cases r2
    obtain ⟨vs, ha, hr⟩ := s.lst h
    exact ⟨a, vs, _, rfl, rfl, ha, by rw [hr.length]; exact line_lt hl, p _ _ _ _ q (s.set h ⟨_, rfl, hr.append (.cons r1 .nil)⟩) (Stp.set h) .non⟩
def rCntF (K : PySem.W.Frag) : V → List V → Hp → VK → Prop := fun x xs H Q => ∃ (p : Addr) (ys : List V) (y : V), x = .ref p ∧ xs = [y] ∧ SqL K H p ys ∧ flatV y = true ∧ ys.all flatV = true ∧ Q (.int (ys.countP (fun z => eqV z y) : Nat)) H
theorem countP_eqU {x : V} : ∀ {xs : List V} {us : List Value}, Vals xs us → xs.all flatV = true → us.countP (eqU x) = xs.countP fun y => eqV y x
  | _, _, .nil, _ => rfl
  | y :: xs, u :: us, .cons r t, f => by
    rw [List.all_cons, Bool.and_eq_true] at f
    rw [List.countP_cons, List.countP_cons, eqU_of r f.1, countP_eqU t f.2]
theorem mt_cntF : MtR Y "list.count" (rCntF Y.K) := by
  intro pins s σ H x xs v us Q I rx rxs h
  obtain ⟨p, ys, y, rfl, rfl, hs, fy, fys, q⟩ := h
  cases rx
  obtain ⟨u, rfl, ru⟩ := rxs.one
  obtain ⟨its, rv, ⟨⟨cls, dd, data, sl⟩, n, ho, hc, hdn, hd⟩, hlen⟩ := I.list hs
  simp only at hc hd
  subst hc hd
  refine call_meets PySem.F.slot_list_count ⟨_, ho, rfl⟩ PySem.F.entry_list_count (PySem.F.args_list_count_2 _ _)
    (SeqAt.list_countAt p its.toArray n dd sl u (eqU y)) ⟨ho, fun w hw => mem_eqAt ru fy rv fys w (by simpa using hw), ?_⟩
  have ec : its.toArray.toList.countP (eqU y) = ys.countP fun z => eqV z y := countP_eqU rv fys
  refine ⟨.int (ys.countP (fun z => eqV z y) : Nat), H, I.tok _, ⟨s.toks, ?_⟩, q⟩
  show Value.int ((its.toArray.toList.countP (eqU y) : Nat) : Int) s.toks = Value.int ((ys.countP (fun z => eqV z y) : Nat) : Int) s.toks
  rw [ec]
theorem m_count {x d : D} {ds : List D} (hx : isL M x ds) (hd : flatD d = true) (hds : ds.all flatD = true) (q : Q (.int (ds.countP (fun e => eqF e d) : Nat)) M) : lM (rCntF K) x [d] M Q := fun u us H k s ru rs p => by
  cases rs with
  | cons r1 r2 =>
    cases r2
    obtain ⟨a, vs, rfl, ha, hr⟩ := isL_sq hx s ru
    refine ⟨a, vs, _, rfl, rfl, SqL.of ha, flat_rp hd r1, flats_rp hds hr, ?_⟩
    rw [count_rp hd r1 hds hr]
    exact p _ _ H M q s (Kn.refl _) (.int _)
theorem m_index {x d e : D} {ds : List D} {j : Nat} (hx : isL M x ds) (hd : flatD d = true) (hds : ds.all flatD = true) (hj : ds[j]? = some e) (he : eqF e d = true) (hn : ∀ m e', m < j → ds[m]? = some e' → eqF e' d = false) (q : Q (.int (j : Int)) M) : lM (rIndex K) x [d] M Q := fun u us H k s ru rs p => by
  cases rs with
  | cons r1 r2 =>
    cases r2
    obtain ⟨a, vs, rfl, ha, hr⟩ := isL_sq hx s ru
    obtain ⟨z, hz, rz⟩ := hr.getD hj
    have fe : ∀ {m : Nat} {e' : D}, ds[m]? = some e' → flatD e' = true := fun h => List.all_eq_true.mp hds _ (List.mem_of_getElem? h)
    refine ⟨a, vs, _, j, z, rfl, rfl, SqL.of ha, flat_rp hd r1, flats_rp hds hr, hz, ?_, fun m z' hm hz' => ?_, p _ _ H M q s (Kn.refl _) (.int _)⟩
    · rw [eqF_rp (fe hj) hd rz r1]
      exact he
    · obtain ⟨e', he', re'⟩ := hr.get hz'
      rw [eqF_rp (fe he') hd re' r1]
      exact hn m e' hm he'
theorem op_isNo : OpR Y (compareOp .Is) rIsNo := op_isN
theorem op_notNo : OpR Y (compareOp .IsNot) rNotNo := op_notN
end
/-- where things stand: the written part, the classes, a table -/
structure G where
  K : PySem.W.Frag
  cE : Addr
  cT : Addr
  cN : Addr
  cA : Addr
  cS : Addr
  cH : Addr
  cR : Addr
  cK : Addr
  a_WORDS : Addr
abbrev rSubA : R2 := rI0 fun i j => .int (i - j)
abbrev rLtA : R2 := rI0 fun i j => .bl (decide (i < j))
abbrev rLeA : R2 := rI0 fun i j => .bl (decide (i ≤ j))
abbrev rGtA : R2 := rI0 fun i j => .bl (decide (j < i))
abbrev rGeA : R2 := rI0 fun i j => .bl (decide (j ≤ i))
abbrev rModA : R2 := rI (fun _ j => 0 < j) fun i j => .int (i % j)
abbrev rFdivA : R2 := rI CDiv fun i j => .int (i / j)
abbrev rPowA : R2 := rI CPow fun i j => .int (i ^ j.toNat)
abbrev rNegA : V → Hp → VK → Prop := rU fun i => .int (-i)
def tTruA (K : PySem.W.Frag) (ta : TE) : TT := fun σ H Q => ta σ H fun x H' => ∃ k, TruV K x H' k ∧ Q k H'
section
variable {X : Cx} {x : Str} {pos : Pos}
theorem pe_gi {n : Int} (hg : Gl X x) (h : ∃ t, X.mg x = some (.int n t)) (hd : (x == ("__debug__" : Str)) = false := by decide) : PE X (.Name x pos) (tC (.int n)) := by
  obtain ⟨t, h⟩ := h
  exact pe_glob hg h ⟨t, rfl⟩ hd
theorem pe_strN {x : Str} {s : List Nat} {j : Nat} (h : x = S s) : PE X (.Constant (.str x) j pos) (tC (.str (S s))) := by
  rw [← h]
  exact pe_str
theorem pe_gsN {n : Str} {s : List Nat} (hg : Gl X x) (h : ∃ t, X.mg x = some (.str n t)) (e : n = S s) (hd : (x == ("__debug__" : Str)) = false := by decide) : PE X (.Name x pos) (tC (.str (S s))) := by
  rw [← e]
  obtain ⟨t, h⟩ := h
  exact pe_glob hg h ⟨t, rfl⟩ hd
theorem pe_gs {n : Str} (hg : Gl X x) (h : ∃ t, X.mg x = some (.str n t)) (hd : (x == ("__debug__" : Str)) = false := by decide) : PE X (.Name x pos) (tC (.str n)) := by
  obtain ⟨t, h⟩ := h
  exact pe_glob hg h ⟨t, rfl⟩ hd
end
section
variable {W : WX} {X : XD} {ρ : En} {M : Mh} {Q : D → Mh → Prop} {A : DE} {K : PySem.W.Frag}
theorem t_truA {ta : TE} {QT : Bool → Mh → Prop} (h : lE W ta ρ M (fun x M1 => ∃ b, (∀ u H1, Sta M1 H1 → Rp (imm H1 M1) u x → TruV K u H1 b) ∧ QT b M1) X) : lT W (tTruA K ta) ρ M QT X := t_truth h
theorem l_strS {s : List Nat} (q : Q (.str s) M) : lE W (tC (.str (S s))) ρ M Q X := fun _ H _ s _ p _ => p _ _ H M q s (Kn.refl _) (.str _)
theorem l_chainA {r r' : R2} {ta tb tc : TE} (h : lE W ta ρ M (fun x M1 => lE W tb ρ M1 (fun y M2 => lR r x y M2 (fun z M3 => ∃ b, z = .bl b ∧ (b = true → lE W tc ρ M3 (fun w M4 => lR r' y w M4 Q) X) ∧ (b = false → Q (.bl false) M3))) X) X) : lE W (tChain r r' ta tb tc) ρ M Q X := l_chain h
theorem g_nameN {i : Nat} {d : D} {ρ' : En} {QG : En → Mh → Prop} (h : ρ.set i (some d) = ρ') (q : QG ρ' M) : lG W (gName i) d ρ M QG X := g_name (by rw [h]; exact q)
theorem t_yes {QT : Bool → Mh → Prop} (q : QT true M) : lT W tYes ρ M QT X := fun σ H k s e p px => p true H M q s (Kn.refl _)
theorem br_t {A B : Prop} (h : A) : (true = true → A) ∧ (true = false → B) := ⟨fun _ => h, (fun z => nomatch z)⟩
theorem br_f {A B : Prop} (h : B) : (false = true → A) ∧ (false = false → B) := ⟨(fun z => nomatch z), fun _ => h⟩
/-- a def's body keeps its promise, told by data -/
def Keeps (n : Nat) (N : List Str) (t : WX → TS) (ds : DSp) : Prop := ∀ (W : WX) (xs : List D) (M : Mh) (Q : D → Mh → Prop) (E : Addr → Mh → Prop), xs.length = n → ds xs M Q E →
  lS W (t W) (xs.map some ++ List.replicate (N.length - n) none) M ⟨fun _ M' => Q .non M', Q, fun _ _ => False, fun _ _ => False⟩ (fun c _ M' => E c M')
/-- a chain's answer: both -/
theorem both {P : Prop} {b c : Bool} (h : (b && c) = true → P) (h2 : (b && c) = false → P) : P := by
  cases e : (b && c) with
  | true => exact h e
  | false => exact h2 e
theorem lT_bool {t : TT} {QT : Bool → Mh → Prop} {b : Bool} (h : lT W t ρ M (fun b' M1 => b' = b ∧ M1 = M) X) (q : QT b M) : lT W t ρ M QT X := fun σ H k s e p px =>
  h σ H k s e (fun b' H1 M1 ⟨e1, e2⟩ s1 t1 => p b' H1 M1 (by rw [e1, e2]; exact q) s1 t1) px
theorem lE_val {t : TE} {d : D} (h : lE W t ρ M (fun d' M1 => d' = d ∧ M1 = M) X) (q : Q d M) : lE W t ρ M Q X := fun σ H k s e p px =>
  h σ H k s e (fun v d' H1 M1 ⟨e1, e2⟩ s1 t1 r => p v d' H1 M1 (by rw [e1, e2]; exact q) s1 t1 r) px
end

/-! ### sorted -/
section
variable {W : WX} {X : XD} {ρ : En} {M : Mh} {Q : D → Mh → Prop} {A : DE} {K : PySem.W.Frag} {Y : Cx}
abbrev leD (a b : D) : Bool := PySem.W.dataLe false toPy a b
abbrev srt (ds : List D) : List D := ds.mergeSort leD
def rSortA (K : PySem.W.Frag) : List V → Hp → VK → Prop := fun xs H Q => ∃ (p : Addr) (zs : List (V × PyData)), xs = [.ref p] ∧ SqL K H p (zs.map (·.1)) ∧ (∀ z, z ∈ zs → Dp K H z.1 z.2) ∧ PySem.W.AllAlike (zs.map (·.2)) ∧ PySem.W.Sortable (zs.map (·.2)) ∧
  (∀ z, z ∈ zs → z.2.depth ≤ 60) ∧ ∀ l, H l = none → Q (.ref l) (upd H l (.lst ((zs.mergeSort (PySem.W.dataLe false (·.2))).map (·.1))))
theorem each_zs {H : Hp} {pins : List (Addr × Obj)} {σ : L2.St} {s : Shared} (I : Inv Y pins σ H s) : ∀ {zs : List (V × PyData)} {us : List Value}, Vals (zs.map (·.1)) us → (∀ z, z ∈ zs → Dp Y.K H z.1 z.2) → PySem.W.EachIs (fun u z => RelV z.1 u) us zs ∧ PySem.W.EachIs (fun v (b : V × PyData) => ∃ as, Reads s.heap v b.2 as) us zs
  | [], _, r, _ => by
    cases r
    exact ⟨.nil, .nil⟩
  | z :: zs, _, r, h => by
    cases r with
    | cons r1 r2 =>
      obtain ⟨a, b⟩ := each_zs I r2 fun z m => h z (List.mem_cons_of_mem _ m)
      exact ⟨.cons r1 a, .cons (Dp.reads I _ _ _ (h z List.mem_cons_self) r1) b⟩
theorem vals_each : ∀ {zs : List (V × PyData)} {us : List Value}, PySem.W.EachIs (fun u (z : V × PyData) => RelV z.1 u) us zs → Vals (zs.map (·.1)) us
  | _, _, .nil => .nil
  | _, _, .cons r t => .cons r (vals_each t)
theorem cr_sortA (hu : Y.A.units + 64 < cLine) : CallR Y (.builtin "sorted") (rSortA Y.K) := by
  intro pins s σ H vs us Q I r h
  obtain ⟨p, zs, rfl, hs, hd, ha, hk, hb, q⟩ := h
  obtain ⟨its, rv, hl, hz⟩ := I.list hs
  obtain ⟨u, rfl, ru⟩ := vals1 r
  obtain rfl : u = Value.ref p := ru
  obtain ⟨e1, e2⟩ := each_zs I rv hd
  have hz' : zs.length ≤ sizeLine := by
    rw [List.length_map] at hz
    exact hz
  refine PySem.W.sorted_data hl.isList e1 e2 ha hk hz' (fun b m => by have := hb b m; omega) fun out h1 h2 => ?_
  have hv := vals_each h2
  obtain ⟨ep, he⟩ := PyProof.Rows.sortedAll_at s.heap its out.toArray
  refine ⟨.ref _, upd H (s.heap.objs.size + 1) (.lst ((zs.mergeSort (PySem.W.dataLe false (·.2))).map (·.1))), I.laid (t' := s.toks) (fun _ _ => PyProof.Rows.sortedAll_old) (Nat.le_succ _) ⟨?_, out, ep, hv, he⟩, rfl, q _ (I.hok.fresh (Nat.le_succ _))⟩
  rw [List.length_map, List.length_mergeSort]
  exact hz'
theorem rpl_zip {I : Hp} : ∀ {vs : List V} {ds : List D}, RpL I vs ds → (vs.zip ds).map (·.1) = vs ∧ (vs.zip ds).map (·.2) = ds ∧ ∀ z, z ∈ vs.zip ds → Rp I z.1 z.2
  | _, _, .nil => ⟨rfl, rfl, fun z m => absurd m (by simp)⟩
  | _, _, .cons r t => by
    obtain ⟨a, b, c⟩ := rpl_zip t
    refine ⟨by simp [a], by simp [b], fun z m => ?_⟩
    rcases List.mem_cons.mp m with rfl | m
    · exact r
    · exact c z m
theorem rpl_of {I : Hp} : ∀ {zs : List (V × D)}, (∀ z, z ∈ zs → Rp I z.1 z.2) → RpL I (zs.map (·.1)) (zs.map (·.2))
  | [], _ => .nil
  | z :: zs, h => .cons (h z List.mem_cons_self) (rpl_of fun z m => h z (List.mem_cons_of_mem _ m))
theorem plains_mem : ∀ {ds : List D} {d : D}, plains ds = true → d ∈ ds → plain d = true
  | e :: ds, d, h, m => by
    rw [plains, Bool.and_eq_true] at h
    rcases List.mem_cons.mp m with rfl | m
    · exact h.1
    · exact plains_mem h.2 m
theorem merge_map {α β : Type} {f : α → β} {r : α → α → Bool} {s : β → β → Bool} (h : ∀ a b, r a b = s (f a) (f b)) (xs : List α) : (xs.mergeSort r).map f = (xs.map f).mergeSort s := List.map_mergeSort fun a _ b _ => h a b
/-- ready to be sorted -/
structure SortOk (ds : List D) : Prop where
  pl : plains ds = true
  al : PySem.W.AllAlike (ds.map toPy)
  so : PySem.W.Sortable (ds.map toPy)
  dp : ∀ d, d ∈ ds → (toPy d).depth ≤ 60
theorem sort_data {H : Hp} {vs : List V} {ds : List D} (s : Sta M H) (hr : RpL (imm H M) vs ds) (ok : SortOk ds) : ∃ zs : List (V × PyData), zs.map (·.1) = vs ∧ (∀ z, z ∈ zs → Dp K H z.1 z.2) ∧ PySem.W.AllAlike (zs.map (·.2)) ∧ PySem.W.Sortable (zs.map (·.2)) ∧ (∀ z, z ∈ zs → z.2.depth ≤ 60) ∧
    RpL (imm H M) ((zs.mergeSort (PySem.W.dataLe false (·.2))).map (·.1)) (srt ds) := by
  obtain ⟨e1, e2, e3⟩ := rpl_zip hr
  have emem : ∀ z : V × D, z ∈ vs.zip ds → z.2 ∈ ds := fun z m => by rw [← e2]; exact List.mem_map.mpr ⟨z, m, rfl⟩
  refine ⟨(vs.zip ds).map fun z => (z.1, toPy z.2), ?_, ?_, ?_, ?_, ?_, ?_⟩
  · rw [List.map_map]
    exact e1
  · intro z m
    obtain ⟨y, my, rfl⟩ := List.mem_map.mp m
    exact (e3 y my).dp (plains_mem ok.pl (emem y my))
  · rw [List.map_map]
    have : (vs.zip ds).map ((fun z : V × PyData => z.2) ∘ fun z : V × D => (z.1, toPy z.2)) = ds.map toPy := by
      conv => rhs; rw [← e2, List.map_map]
      rfl
    rw [this]
    exact ok.al
  · rw [List.map_map]
    have : (vs.zip ds).map ((fun z : V × PyData => z.2) ∘ fun z : V × D => (z.1, toPy z.2)) = ds.map toPy := by
      conv => rhs; rw [← e2, List.map_map]
      rfl
    rw [this]
    exact ok.so
  · intro z m
    obtain ⟨y, my, rfl⟩ := List.mem_map.mp m
    exact ok.dp _ (emem y my)
  · have h1 := merge_map (f := fun z : V × D => (z.1, toPy z.2)) (r := fun a b => leD a.2 b.2) (s := PySem.W.dataLe false (·.2)) (fun _ _ => rfl) (vs.zip ds)
    have h2 := merge_map (f := fun z : V × D => z.2) (r := fun a b => leD a.2 b.2) (s := leD) (fun _ _ => rfl) (vs.zip ds)
    rw [← h1, List.map_map]
    have h3 : srt ds = ((vs.zip ds).mergeSort fun a b => leD a.2 b.2).map (·.2) := by
      rw [h2]
      rw [e2]
    rw [h3]
    exact rpl_of fun z m => e3 z (List.mem_mergeSort.mp m)
theorem c_sort {x : D} {ds : List D} (hx : isL M x ds) (ok : SortOk ds) (q : Q (.lst (srt ds)) M) : lC (rSortA K) [x] M Q := fun us H k s r p => by
  cases r with
  | cons r1 r2 =>
    cases r2
    obtain ⟨a, vs, rfl, ha, hr⟩ := isL_sq hx s r1
    obtain ⟨zs, e1, e2, e3, e4, e5, e6⟩ := sort_data (K := K) s hr ok
    exact ⟨a, zs, rfl, by rw [e1]; exact SqL.of ha, e2, e3, e4, e5, fun c hc => p _ _ _ M q (s.new hc) (Stp.new hc) (.lst (imm_new s hc) (e6.mono (Stp.new hc)))⟩
theorem c_sortM {x : D} {ds : List D} (hx : isL M x ds) (ok : SortOk ds) (q : ∀ a, M a = none → Q (.ref a) (upM M a (.lst (srt ds)))) : lC (rSortA K) [x] M Q := fun us H k s r p => by
  cases r with
  | cons r1 r2 =>
    cases r2
    obtain ⟨a, vs, rfl, ha, hr⟩ := isL_sq hx s r1
    obtain ⟨zs, e1, e2, e3, e4, e5, e6⟩ := sort_data (K := K) s hr ok
    exact ⟨a, zs, rfl, by rw [e1]; exact SqL.of ha, e2, e3, e4, e5, fun c hc => p _ _ _ _ (q c (s.fresh hc)) (s.newC hc ⟨_, rfl, e6⟩) (Stp.newC hc) (.ref c)⟩
/-- all of one form -/
theorem plains_map {β : Type} {f : β → D} {bs : List β} (h : ∀ b, plain (f b) = true) : plains (bs.map f) = true := by
  induction bs with
  | nil => rfl
  | cons b bs ih => rw [List.map_cons, plains, h, ih]; rfl
theorem SortOk.of {β : Type} {f : β → D} {bs : List β} (hp : ∀ b, plain (f b) = true) (ha : ∀ b b', PySem.W.alike (toPy (f b)) (toPy (f b')) = true) (ht : (∀ b, ∃ x r, toPy (f b) = .tuple (x :: r)) ∨ ∀ b, toPy (f b) ≠ .none ∧ ∀ xs, toPy (f b) ≠ .tuple xs) (hd : ∀ b, (toPy (f b)).depth ≤ 60) : SortOk (bs.map f) where
  pl := plains_map hp
  al := by
    rw [List.map_map]
    exact PySem.W.AllAlike.of (enc := toPy ∘ f) ha
  so := by
    rw [List.map_map]
    rcases ht with h | h
    · exact PySem.W.Sortable.tuples (enc := toPy ∘ f) h
    · exact PySem.W.Sortable.others (enc := toPy ∘ f) h
  dp := fun d m => by
    obtain ⟨b, _, rfl⟩ := List.mem_map.mp m
    exact hd b
theorem srt_map {β : Type} (f : β → D) (bs : List β) : srt (bs.map f) = (bs.mergeSort fun a b => leD (f a) (f b)).map f := (merge_map (f := f) (r := fun a b => leD (f a) (f b)) (s := leD) (fun _ _ => rfl) bs).symm
/-! the order: total, and two that are alike both ways have the same signs -/
theorem leD_tot : PySem.W.TotalLe leD := PySem.W.sortLe_total (listOrd itemOrd) false fun b => PySem.W.keyToks (toPy b)
theorem leD_trans (a b c : D) (h1 : leD a b = true) (h2 : leD b c = true) : leD a c = true := leD_tot.trans a b c h1 h2
theorem leD_total (a b : D) : (leD a b || leD b a) = true := by
  rcases leD_tot.total a b with h | h
  · rw [h]; rfl
  · rw [h, Bool.or_true]
theorem leD_toks {a b : D} (h1 : leD a b = true) (h2 : leD b a = true) : PySem.W.keyToks (toPy a) = PySem.W.keyToks (toPy b) := by
  have e1 : (!lexLt itemOrd (PySem.W.keyToks (toPy b)) (PySem.W.keyToks (toPy a))) = true := h1
  have e2 : (!lexLt itemOrd (PySem.W.keyToks (toPy a)) (PySem.W.keyToks (toPy b))) = true := h2
  exact lex_total (O := itemOrd) _ _ (by simpa using e2) (by simpa using e1)
/-- sorted by a total order: any order of the same things -/
theorem sort_perm {α : Type} {le : α → α → Bool} (tr : ∀ a b c, le a b = true → le b c = true → le a c = true) (to : ∀ a b, (le a b || le b a) = true) {xs ys : List α} (p : xs.Perm ys) (an : ∀ a b, a ∈ xs → b ∈ xs → le a b = true → le b a = true → a = b) : xs.mergeSort le = ys.mergeSort le := by
  refine List.Perm.eq_of_pairwise (le := fun a b => le a b = true) (fun a b ha hb h1 h2 => an a b (List.mem_mergeSort.mp ha) (p.mem_iff.mpr (List.mem_mergeSort.mp hb)) h1 h2) (List.pairwise_mergeSort tr to xs) (List.pairwise_mergeSort tr to ys) ?_
  exact (List.mergeSort_perm xs le).trans (p.trans (List.mergeSort_perm ys le).symm)

/-! ### list.remove of a text -/
def eqS (k : Str) : Value → Bool
  | .str x _ => x == k
  | _ => false
def rRemF : V → List V → Hp → VK → Prop := fun x xs H Q => ∃ (l : Addr) (ss : List (List Nat)) (k : List Nat), x = .ref l ∧ xs = [.str (S k)] ∧ H l = some (.lst (ss.map fun s => V.str (S s))) ∧ k ∈ ss ∧ Q .non (upd H l (.lst ((ss.erase k).map fun s => V.str (S s))))
theorem eqS_gives {k : Str} {t : Tok} : ∀ {ss : List (List Nat)} {us : List Value}, Vals (ss.map fun s => V.str (S s)) us → ∀ y ∈ us, MeetsSeq.EqGives y (.str k t) (eqS k y)
  | [], _, r => by
    cases r
    exact fun y hy => absurd hy (by simp)
  | s :: ss, _, r => by
    cases r with
    | cons r1 r2 =>
      obtain ⟨t1, rfl⟩ := r1
      intro y hy
      rcases List.mem_cons.mp hy with rfl | hy
      · have h := SeqRoads2.EqGives.str (S s) k t1 t
        rw [SeqAt.str_beq] at h
        exact h
      · exact eqS_gives r2 y hy
theorem vals_strAt : ∀ {ss : List (List Nat)} {us : List Value} {i : Nat}, Vals (ss.map fun s => V.str (S s)) us → (h : i < us.length) → ∃ s t, ss[i]? = some s ∧ us[i] = .str (S s) t
  | [], _, _, r, h => by
    cases r
    exact absurd h (by simp)
  | s :: ss, _, 0, r, h => by
    cases r with
    | cons r1 r2 =>
      obtain ⟨t1, rfl⟩ := r1
      exact ⟨s, t1, rfl, rfl⟩
  | s :: ss, _, i + 1, r, h => by
    cases r with
    | cons r1 r2 =>
      obtain ⟨s', t, h1, h2⟩ := vals_strAt (i := i) r2 (by simpa using h)
      exact ⟨s', t, by simpa using h1, by simpa using h2⟩
theorem idx_erase : ∀ {ss : List (List Nat)} {k : List Nat}, k ∈ ss → ∃ j, j < ss.length ∧ ss[j]? = some k ∧ (∀ i, i < j → ss[i]? ≠ some k) ∧ ss.eraseIdx j = ss.erase k
  | s :: ss, k, h => by
    by_cases e : s = k
    · subst e
      exact ⟨0, by simp, rfl, fun i hi => by omega, by simp⟩
    · have h' : k ∈ ss := (List.mem_cons.mp h).resolve_left fun z => e z.symm
      obtain ⟨j, h1, h2, h3, h4⟩ := idx_erase h'
      refine ⟨j + 1, by simpa using h1, by simpa using h2, fun i hi => ?_, ?_⟩
      · cases i with
        | zero => simpa using e
        | succ i =>
          have := h3 i (by omega)
          simpa using this
      · rw [List.eraseIdx_cons_succ, h4, List.erase_cons]
        have : (s == k) = false := by simpa using e
        rw [this]
        rfl
theorem map_eraseIdxS (f : List Nat → V) : ∀ (ss : List (List Nat)) (j : Nat), (ss.map f).eraseIdx j = (ss.eraseIdx j).map f
  | [], j => by simp
  | a :: r, 0 => by simp
  | a :: r, j + 1 => by
    have ih := map_eraseIdxS f r j
    simp [ih]
theorem S_inj {a b : List Nat} (h : S a = S b) : a = b := by
  have e : (S a == S b) = (a == b) := SX.S_beq a b
  rw [h] at e
  have e2 : (a == b) = true := by rw [← e]; exact beq_self_eq_true _
  exact eq_of_beq e2
theorem mt_remF : MtM Y "list.remove" rRemF := by
  intro pins s σ H x xs v us Q I rx rxs h
  obtain ⟨l, ss, k, rfl, rfl, hH, hk, q⟩ := h
  cases rx
  obtain ⟨u, rfl, ru⟩ := rxs.one
  obtain ⟨t, rfl⟩ := ru
  obtain ⟨z, its, n, r, hl, e⟩ := I.lstM hH
  obtain ⟨j, hj, hjk, hno, he⟩ := idx_erase hk
  rw [List.length_map] at hl z
  have hjl : j < its.toArray.size := by rw [List.size_toArray]; omega
  refine call_meets PySem.F.slot_list_remove ⟨_, e, rfl⟩ PySem.F.entry_list_remove (PySem.F.args_list_remove_2 _ _)
    (MeetsSeq.list_remove l its.toArray n (.str (S k) t) (eqS (S k)) (fun y hy => eqS_gives r y (by simpa using hy)) j hjl ?_ ?_ (by rw [List.size_toArray]; omega)) ⟨e, ?_⟩
  · obtain ⟨s', t', h1, h2⟩ := vals_strAt (i := j) r (by omega)
    have e1 : its.toArray[j] = .str (S s') t' := by simpa using h2
    have e2 : s' = k := by
      rw [h1] at hjk
      exact Option.some.inj hjk
    rw [e1, e2]
    exact beq_self_eq_true _
  · intro m hm hmj
    obtain ⟨s', t', h1, h2⟩ := vals_strAt (i := m) r (by omega)
    have e1 : its.toArray[m] = .str (S s') t' := by simpa using h2
    rw [e1]
    refine beq_eq_false_iff_ne.mpr fun e2 => hno m hmj ?_
    rw [h1, S_inj e2]
  · have rr := r.eraseIdx j
    rw [map_eraseIdxS, he] at rr
    refine ⟨.non, _, I.lset (its' := its.eraseIdx j) (t' := s.toks) hH e ?_ rr ?_, rfl, q⟩
    · show its.toArray.eraseIdxIfInBounds j = (its.eraseIdx j).toArray
      rw [List.eraseIdxIfInBounds_toArray]
    · rw [List.length_map]
      have := List.length_erase_le (a := k) (l := ss)
      omega
theorem m_remS {a : Addr} {ss : List (List Nat)} {k : List Nat} (ha : M a = some (.lst (ss.map D.str))) (hk : k ∈ ss) (q : Q .non (upM M a (.lst ((ss.erase k).map D.str)))) : lM rRemF (.ref a) [.str k] M Q := fun u us H kk s ru rs p => by
  cases ru
  cases rs with
  | cons r1 r2 =>
    cases r2
    cases r1
    obtain ⟨vs, hv, hr⟩ := s.lst ha
    have e := hr.to_strs
    subst e
    exact ⟨a, ss, k, rfl, rfl, hv, hk, p _ _ _ _ q (s.set ha ⟨_, rfl, RpL.strs _⟩) (Stp.set ha) .non⟩

/-! ### str(..), int(..) -/
theorem S_of_str (s : Str) : ∃ l, s = S l := ⟨_, (S_tl s).symm⟩
/-- a whole number's figures -/
def figs (i : Int) : List Nat := TL.tl (Str.ofString (toString i))
def rStrA : List V → Hp → VK → Prop := fun xs H Q => (∃ i, xs = [.int i] ∧ i.natAbs.log2 < 1920 ∧ Q (.str (toString i)) H) ∨ ∃ a, xs = [.str a] ∧ Q (.str a) H
theorem cr_strA : CallR Y (.type "str") rStrA := by
  intro pins s σ H xs us Q I r h
  rcases h with h | h
  · exact call_str_int pins s σ H xs us Q I r h
  · exact SkE.call_str_str pins s σ H xs us Q I r h
theorem log2_small {i : Int} (h : i.natAbs < 2 ^ 64) : i.natAbs.log2 < 1920 := by
  by_cases e : i.natAbs = 0
  · rw [e]; decide
  · have := (Nat.log2_lt e).mpr h
    omega
theorem c_strI {i : Int} (h : i.natAbs < 2 ^ 64) (q : Q (.str (figs i)) M) : lC rStrA [.int i] M Q := fun us H k s r p => by
  cases r with
  | cons r1 r2 =>
    cases r2
    cases r1
    refine .inl ⟨i, rfl, log2_small h, p _ _ H M q s (Kn.refl _) ?_⟩
    have e := Rp.str (I := imm H M) (figs i)
    unfold figs at e
    rw [S_tl] at e
    exact e
theorem c_strS {a : List Nat} (q : Q (.str a) M) : lC rStrA [.str a] M Q := fun us H k s r p => by
  cases r with
  | cons r1 r2 =>
    cases r2
    cases r1
    exact .inr ⟨_, rfl, p _ _ H M q s (Kn.refl _) (.str a)⟩

/-! ### xs[::-1] -/
abbrev tRevA (K : PySem.W.Frag) (te : TE) : TE := tRevL K te
theorem l_revA {te : TE} (h : lE W te ρ M (fun x M1 => ∃ ds, isL M1 x ds ∧ Q (.lst ds.reverse) M1) X) : lE W (tRevA K te) ρ M Q X := fun σ H k s e p px =>
  h σ H _ s e (fun u x H1 M1 q1 s1 t1 r1 => by
    obtain ⟨ds, hx, q⟩ := q1
    obtain ⟨a, vs, rfl, ha, hr⟩ := isL_sq hx s1 r1
    refine ⟨a, vs, rfl, SqL.of ha, fun c hc => p _ _ _ M1 q (s1.new hc) (t1.trans (Stp.new hc)) (.lst (imm_new s1 hc) ?_)⟩
    have rev : ∀ {I : Hp} {vs : List V} {ds : List D}, RpL I vs ds → RpL I vs.reverse ds.reverse := by
      intro I vs ds r
      induction vs generalizing ds with
      | nil => cases r; exact .nil
      | cons v vs ih =>
        cases r with
        | cons r1 r2 =>
          rw [List.reverse_cons, List.reverse_cons]
          exact (ih r2).append (.cons r1 .nil)
    exact (rev hr).mono (Stp.new hc)) px
end
section
variable {X : Cx}
theorem pe_revA {e : Expr} {te : TE} {k : Nat} {p1 p2 p3 pos : Pos} (he : PE X e te) : PE X (.Subscript e (.Slice none none (some (.UnaryOp .USub (.Constant (.int 1) k p1) p2)) p3) pos) (tRevA X.K te) := pe_revL he
end
/-! ### what may be compared: told by its depth -/
def OkN : Nat → D → Prop
  | _, .non => True
  | _, .bl _ => True
  | _, .int _ => True
  | _, .str s => ∀ c ∈ s, c < 1114112
  | n + 1, .tup ds => ∀ d ∈ ds, OkN n d
  | n + 1, .lst ds => ∀ d ∈ ds, OkN n d
  | _, _ => False
theorem strOk_S {s : List Nat} (h : ∀ c ∈ s, c < 1114112) : PyData.strOk (S s) = true := by
  unfold PyData.strOk
  rw [Array.all_eq_true_iff_forall_mem]
  intro c hc
  have : c ∈ s := by simpa [SX.S] using hc
  exact decide_eq_true (h c this)
theorem OkN.all : ∀ {n : Nat} {d : D}, OkN n d → plain d = true ∧ (toPy d).canLay0 = true ∧ (toPy d).depth ≤ n
  | _, .non, _ => ⟨rfl, by rw [toPy, PyData.canLay0], by rw [toPy, PyData.depth]; omega⟩
  | _, .bl _, _ => ⟨rfl, by rw [toPy, PyData.canLay0], by rw [toPy, PyData.depth]; omega⟩
  | _, .int _, _ => ⟨rfl, by rw [toPy, PyData.canLay0], by rw [toPy, PyData.depth]; omega⟩
  | n, .str s, h => ⟨rfl, by
      rw [toPy, PyData.canLay0]
      cases n <;> exact strOk_S h, by rw [toPy, PyData.depth]; omega⟩
  | n + 1, .tup ds, h => by
    have hh : ∀ d ∈ ds, OkN n d := h
    have k : ∀ ds : List D, (∀ d ∈ ds, plain d = true ∧ (toPy d).canLay0 = true ∧ (toPy d).depth ≤ n) → plains ds = true ∧ PyData.canLayAll0 (toPys ds) = true ∧ PyData.depthAll (toPys ds) ≤ n := by
      intro ds
      induction ds with
      | nil => exact fun _ => ⟨rfl, rfl, by rw [toPys, PyData.depthAll]; omega⟩
      | cons d ds ih =>
        intro h
        obtain ⟨a, b, c⟩ := h d List.mem_cons_self
        obtain ⟨a', b', c'⟩ := ih fun d m => h d (List.mem_cons_of_mem _ m)
        refine ⟨by rw [plains, a, a']; rfl, by rw [toPys, PyData.canLayAll0, b, b']; rfl, ?_⟩
        rw [toPys, PyData.depthAll]
        omega
    obtain ⟨a, b, c⟩ := k ds fun d m => OkN.all (hh d m)
    exact ⟨by rw [plain]; exact a, by rw [toPy, PyData.canLay0]; exact b, by rw [toPy, PyData.depth]; omega⟩
  | n + 1, .lst ds, h => by
    have hh : ∀ d ∈ ds, OkN n d := h
    have k : ∀ ds : List D, (∀ d ∈ ds, plain d = true ∧ (toPy d).canLay0 = true ∧ (toPy d).depth ≤ n) → plains ds = true ∧ PyData.canLayAll0 (toPys ds) = true ∧ PyData.depthAll (toPys ds) ≤ n := by
      intro ds
      induction ds with
      | nil => exact fun _ => ⟨rfl, rfl, by rw [toPys, PyData.depthAll]; omega⟩
      | cons d ds ih =>
        intro h
        obtain ⟨a, b, c⟩ := h d List.mem_cons_self
        obtain ⟨a', b', c'⟩ := ih fun d m => h d (List.mem_cons_of_mem _ m)
        refine ⟨by rw [plains, a, a']; rfl, by rw [toPys, PyData.canLayAll0, b, b']; rfl, ?_⟩
        rw [toPys, PyData.depthAll]
        omega
    obtain ⟨a, b, c⟩ := k ds fun d m => OkN.all (hh d m)
    exact ⟨by rw [plain]; exact a, by rw [toPy, PyData.canLay0]; exact b, by rw [toPy, PyData.depth]; omega⟩
  | 0, .tup _, h => h.elim
  | 0, .lst _, h => h.elim
  | n, .ref _, h => by cases n <;> exact h.elim
  | n, .exc _, h => by cases n <;> exact h.elim
  | n, .ty _, h => by cases n <;> exact h.elim
  | n, .opq _, h => by cases n <;> exact h.elim
theorem OkN.ok {n : Nat} {d : D} (h : OkN n d) (hn : n ≤ 64 := by decide) : okD d = true := by
  obtain ⟨a, b, c⟩ := h.all
  unfold okD SeqAt.shaped
  rw [a, b, decide_eq_true (by omega : (toPy d).depth ≤ 64)]
  rfl
theorem OkN.lst {n : Nat} {ds : List D} (h : ∀ d ∈ ds, OkN n d) : OkN (n + 1) (.lst ds) := h
theorem OkN.tup {n : Nat} {ds : List D} (h : ∀ d ∈ ds, OkN n d) : OkN (n + 1) (.tup ds) := h
theorem OkN.str {n : Nat} {s : List Nat} (h : ∀ c ∈ s, c < 1114112) : OkN n (.str s) := by cases n <;> exact h
theorem OkN.int {n : Nat} {i : Int} : OkN n (.int i) := by cases n <;> exact trivial
theorem OkN.bl {n : Nat} {i : Bool} : OkN n (.bl i) := by cases n <;> exact trivial
theorem OkN.non {n : Nat} : OkN n .non := by cases n <;> exact trivial
theorem OkN.nil {n : Nat} : ∀ d ∈ ([] : List D), OkN n d := fun d m => absurd m (by simp)
theorem OkN.cons {n : Nat} {d : D} {ds : List D} (h : OkN n d) (t : ∀ d ∈ ds, OkN n d) : ∀ e ∈ d :: ds, OkN n e := fun e m => by
  rcases List.mem_cons.mp m with rfl | m
  · exact h
  · exact t e m
theorem OkN.map {α : Type} {n : Nat} {f : α → D} {xs : List α} (h : ∀ x ∈ xs, OkN n (f x)) : ∀ d ∈ xs.map f, OkN n d := fun d m => by
  obtain ⟨x, hx, rfl⟩ := List.mem_map.mp m
  exact h x hx
theorem OkN.strs {n : Nat} {ss : List (List Nat)} (h : ∀ s ∈ ss, ∀ c ∈ s, c < 1114112) : OkN (n + 1) (.lst (ss.map D.str)) := OkN.lst (OkN.map fun s m => OkN.str (h s m))

section
variable {W : WX} {X : XD} {ρ : En} {M : Mh} {Q : D → Mh → Prop} {A : DE} {K : PySem.W.Frag} {Y : Cx}
/-- a comprehension that changes nothing, to a list that may change -/
theorem l_lcM {wi : TI} {g : TG} {tt : TT} {te : TE} {vs : List Nat} (hw : WipG g vs) (h : lI W wi ρ M (fun ds C M1 => ∃ F : D → Option D, ds.length ≤ 100000 ∧ (∀ M', KnM M1 M' → C M') ∧
      (∀ d, d ∈ ds → ∀ M', KnM M1 M' → lG W0 g d (wipeD ρ vs) M' (fun ρ2 M2 => lT W0 tt ρ2 M2 (fun b M3 => (b = true → lE W0 te ρ2 M3 (fun y M4 => M4 = M' ∧ F d = some y) noX) ∧ (b = false → M3 = M' ∧ F d = none)) noX) noX) ∧
      ∀ a, M1 a = none → Q (.ref a) (upM M1 a (.lst (ds.filterMap F)))) X) : lE W (tLc wi g tt te vs) ρ M Q X := by
  refine l_lc hw ?_
  refine fun σ H k s e p px => h σ H k s e (fun J H' M' ds C q s' t' wk => ?_) px
  refine p J H' M' ds C (fun a ha => ?_) s' t' wk
  obtain ⟨F, hlen, hC, hF, hQ⟩ := q
  have kn : ∀ c, KnM M' (upM M' a c) := fun c b d hb => by
    have n : b ≠ a := fun z => by
      rw [z, ha] at hb
      cases hb
    rw [upM_ne n]
    exact hb
  have lenF : ∀ i, ((ds.take i).filterMap F).length ≤ 100000 := fun i => by
    have h1 := List.length_filterMap_le F (ds.take i)
    have h3 : (ds.take i).length ≤ ds.length := by rw [List.length_take]; omega
    omega
  refine ⟨fun i acc M2 => M2 = upM M' a (.lst acc) ∧ acc = (ds.take i).filterMap F, ⟨rfl, rfl⟩, ?_, ?_, ?_⟩
  · rintro i acc M2 ⟨rfl, rfl⟩
    exact ⟨hC _ (kn _), upM_same, lenF i⟩
  · rintro i acc M2 d hd ⟨rfl, e1⟩
    have et : ds.take (i + 1) = ds.take i ++ [d] := by rw [List.take_add_one, hd]; rfl
    refine fun v σ2 H2 k2 s2 e2 r2 p2 px2 => hF d (List.mem_of_getElem? hd) _ (kn _) v σ2 H2 k2 s2 e2 r2 (fun σ3 ρ3 H3 M3 q3 s3 t3 e3 => p2 _ _ _ _ ?_ s3 t3 e3) px2
    refine fun σ4 H4 k4 s4 e4 p4 px4 => q3 σ4 H4 k4 s4 e4 (fun b H5 M5 q5 s5 t5 => p4 _ _ _ ⟨fun hb => ?_, fun hb => ?_⟩ s5 t5) px4
    · refine fun σ6 H6 k6 s6 e6 p6 px6 => q5.1 hb σ6 H6 k6 s6 e6 (fun v7 y H7 M7 q7 s7 t7 r7 => p6 _ _ _ _ ?_ s7 t7 r7) px6
      obtain ⟨rfl, ef⟩ := q7
      refine ⟨upM_same, upM_upM, ?_⟩
      rw [et, List.filterMap_append, ← e1]
      simp [ef]
    · obtain ⟨rfl, ef⟩ := q5.2 hb
      refine ⟨rfl, ?_⟩
      rw [et, List.filterMap_append, ← e1]
      simp [ef]
  · rintro acc M2 ⟨rfl, e1⟩
    rw [List.take_length] at e1
    rw [e1]
    exact hQ a ha
end
theorem br_nt {A B : Prop} (h : A) : ((!false) = true → A) ∧ ((!false) = false → B) := ⟨fun _ => h, (fun z => nomatch z)⟩
theorem br_nf {A B : Prop} (h : B) : ((!true) = true → A) ∧ ((!true) = false → B) := ⟨(fun z => nomatch z), fun _ => h⟩
theorem br_nt' {b : Bool} {A B : Prop} (h : A) (e : b = true := by rfl) : (b = true → A) ∧ (b = false → B) := ⟨fun _ => h, fun z => absurd (e.symm.trans z) (by decide)⟩
theorem br_nf' {b : Bool} {A B : Prop} (h : B) (e : b = false := by rfl) : (b = true → A) ∧ (b = false → B) := ⟨fun z => absurd (e.symm.trans z) (by decide), fun _ => h⟩
/-! ### max of a list of like things -/
section
variable {W : WX} {X : XD} {ρ : En} {M : Mh} {Q : D → Mh → Prop} {A : DE} {K : PySem.W.Frag} {Y : Cx}
def rMaxA (K : PySem.W.Frag) : List V → Hp → VK → Prop := fun xs H Q => ∃ (p : Addr) (z0 : V × PyData) (zs : List (V × PyData)), xs = [.ref p] ∧ SqL K H p ((z0 :: zs).map (·.1)) ∧ (∀ z, z ∈ z0 :: zs → Dp K H z.1 z.2) ∧ PySem.W.AlikeAll ((z0 :: zs).map (·.2)) ∧
  PyData.depthAll ((z0 :: zs).map (·.2)) ≤ 60 ∧ ∀ z, z ∈ z0 :: zs → z.2 = PySem.W.maxD z0.2 (zs.map (·.2)) → Q z.1 H
theorem dpAll_zs {H : Hp} : ∀ {zs : List (V × PyData)}, (∀ z, z ∈ zs → Dp K H z.1 z.2) → DpAll K H (zs.map (·.1)) (zs.map (·.2))
  | [], _ => .nil
  | z :: zs, h => .cons (h z List.mem_cons_self) (dpAll_zs fun z m => h z (List.mem_cons_of_mem _ m))
theorem cr_maxA (hu : Y.A.units + 64 < cLine) (hc : Y.calm = true) : CallR Y (.builtin "max") (rMaxA Y.K) := by
  intro pins s σ H vs us Q I r h
  obtain ⟨p, z0, zs, rfl, hs, hd, ha, hb, q⟩ := h
  obtain ⟨its, rv, hl, hz⟩ := I.list hs
  obtain ⟨u, rfl, ru⟩ := vals1 r
  obtain rfl : u = Value.ref p := ru
  obtain ⟨as, rr⟩ := Dp.readsAll I _ _ _ (dpAll_zs hd) rv
  have hl' : s.heap.IsList p its.toArray := hl.isList
  refine PySem.W.max_list_data (I.ok.hd hc) hl' (x := z0.2) (xs := zs.map fun z : V × PyData => z.2) (as := as) rr ha (by
    have e : PyData.depthAll (z0.2 :: zs.map (·.2)) ≤ 60 := hb
    omega) fun i v h' tk bs hv hr hk => ?_
  have hv' : its[i]? = some v := by rw [← hv]; simp
  obtain ⟨z, hzi, rz⟩ : ∃ z, (z0 :: zs)[i]? = some z ∧ RelV z.1 v := by
    have hlen := rv.length
    rw [List.length_map] at hlen
    have hi : i < (z0 :: zs).length := by
      have := (List.getElem?_eq_some_iff.mp hv').1
      omega
    obtain ⟨w, hw, rw'⟩ := rv.get (i := i) (x := ((z0 :: zs)[i]).1) (by rw [List.getElem?_map, List.getElem?_eq_getElem hi]; rfl)
    refine ⟨_, List.getElem?_eq_getElem hi, ?_⟩
    rw [hv'] at hw
    rw [Option.some.inj hw]
    exact rw'
  have hm := List.mem_of_getElem? hzi
  have I' := I.kept (t' := tk) hk
  refine ⟨z.1, H, I', rz, q z hm ?_⟩
  obtain ⟨as', r1⟩ := Dp.reads I' _ _ _ (hd z hm) rz
  have mem : PySem.W.maxD z0.2 (zs.map (·.2)) ∈ (z0 :: zs).map (·.2) := by
    have : ∀ (x : PyData) (xs : List PyData), PySem.W.maxD x xs ∈ x :: xs := by
      intro x xs
      unfold PySem.W.maxD
      induction xs generalizing x with
      | nil => exact List.mem_cons_self
      | cons y ys ih =>
        rw [List.foldl_cons]
        have h1 := ih (if PySem.W.dataLt x y then y else x)
        rcases List.mem_cons.mp h1 with h2 | h2
        · rw [h2]
          split
          · exact List.mem_cons_of_mem _ List.mem_cons_self
          · exact List.mem_cons_self
        · exact List.mem_cons_of_mem _ (List.mem_cons_of_mem _ h2)
    exact this _ _
  exact PySem.W.alike_unique _ _ _ _ _ (ha.1 _ (List.mem_map.mpr ⟨z, hm, rfl⟩) _ mem) r1 hr
/-- ready for max -/
structure MaxOk (ds : List D) : Prop where
  pl : plains ds = true
  al : PySem.W.AlikeAll (ds.map toPy)
  dp : PyData.depthAll (ds.map toPy) ≤ 60
theorem c_maxA {x d : D} {ds : List D} (hx : isL M x (d :: ds)) (ok : MaxOk (d :: ds)) (q : ∀ e ∈ d :: ds, toPy e = PySem.W.maxD (toPy d) (ds.map toPy) → Q e M) : lC (rMaxA K) [x] M Q := fun us H k s r p => by
  cases r with
  | cons r1 r2 =>
    cases r2
    obtain ⟨a, vs, rfl, ha, hr⟩ := isL_sq hx s r1
    cases hr with
    | cons h0 hs =>
      rename_i v0 vs
      obtain ⟨e1, e2, e3⟩ := rpl_zip hs
      have es : ∀ z : V × PyData, z ∈ ((vs.zip ds).map fun z => (z.1, toPy z.2)) → ∃ y, y ∈ vs.zip ds ∧ z = (y.1, toPy y.2) := fun z m => by
        obtain ⟨y, my, rfl⟩ := List.mem_map.mp m
        exact ⟨y, my, rfl⟩
      have emem : ∀ z : V × D, z ∈ vs.zip ds → z.2 ∈ ds := fun z m => by rw [← e2]; exact List.mem_map.mpr ⟨z, m, rfl⟩
      have m1 : ((vs.zip ds).map fun z => (z.1, toPy z.2)).map (·.1) = vs := by
        rw [List.map_map]
        exact e1
      have m2 : ((vs.zip ds).map fun z => (z.1, toPy z.2)).map (·.2) = ds.map toPy := by
        rw [List.map_map]
        conv => rhs; rw [← e2, List.map_map]
        rfl
      refine ⟨a, (v0, toPy d), (vs.zip ds).map fun z => (z.1, toPy z.2), rfl, ?_, ?_, ?_, ?_, ?_⟩
      · rw [List.map_cons, m1]
        exact SqL.of ha
      · intro z m
        rcases List.mem_cons.mp m with rfl | m
        · exact h0.dp (plains_mem ok.pl List.mem_cons_self)
        · obtain ⟨y, my, rfl⟩ := es z m
          exact (e3 y my).dp (plains_mem ok.pl (List.mem_cons_of_mem _ (emem y my)))
      · rw [List.map_cons, m2]
        exact ok.al
      · rw [List.map_cons, m2]
        exact ok.dp
      · intro z m e
        rw [m2] at e
        rcases List.mem_cons.mp m with rfl | m
        · exact p _ _ H M (q d List.mem_cons_self e) s (Kn.refl _) h0
        · obtain ⟨y, my, rfl⟩ := es z m
          exact p _ _ H M (q y.2 (List.mem_cons_of_mem _ (emem y my)) e) s (Kn.refl _) (e3 y my)
/-- nothing is greater than max -/
theorem maxD_top (x : PyData) (xs : List PyData) : PySem.W.maxD x xs ∈ x :: xs ∧ ∀ y ∈ x :: xs, PySem.W.dataLt (PySem.W.maxD x xs) y = false := by
  unfold PySem.W.maxD
  have irr : ∀ a, PySem.W.dataLt a a = false := fun a => (listOrd itemOrd).irrefl _
  have neg : ∀ a b c, PySem.W.dataLt a c = true → PySem.W.dataLt a b = true ∨ PySem.W.dataLt b c = true := fun a b c h => (listOrd itemOrd).negTrans _ _ _ h
  induction xs generalizing x with
  | nil => exact ⟨List.mem_cons_self, fun y hy => by rw [List.mem_singleton.mp hy]; exact irr _⟩
  | cons z zs ih =>
    rw [List.foldl_cons]
    by_cases h : PySem.W.dataLt x z = true
    · rw [if_pos h]
      obtain ⟨h1, h2⟩ := ih z
      refine ⟨List.mem_cons_of_mem _ h1, fun y hy => ?_⟩
      rcases List.mem_cons.mp hy with rfl | hy
      · have hz := h2 z List.mem_cons_self
        cases e : PySem.W.dataLt (List.foldl (fun a y => if PySem.W.dataLt a y = true then y else a) z zs) y with
        | false => rfl
        | true =>
          have tr := (listOrd itemOrd).trans _ _ _ e h
          have tr' : PySem.W.dataLt (List.foldl (fun a y => if PySem.W.dataLt a y = true then y else a) z zs) z = true := tr
          rw [hz] at tr'
          cases tr'
      · exact h2 y hy
    · rw [if_neg h]
      obtain ⟨h1, h2⟩ := ih x
      refine ⟨?_, fun y hy => ?_⟩
      · rcases List.mem_cons.mp h1 with h3 | h3
        · rw [h3]
          exact List.mem_cons_self
        · exact List.mem_cons_of_mem _ (List.mem_cons_of_mem _ h3)
      · rcases List.mem_cons.mp hy with rfl | hy
        · exact h2 y List.mem_cons_self
        rcases List.mem_cons.mp hy with rfl | hy
        · cases e : PySem.W.dataLt (List.foldl (fun a y => if PySem.W.dataLt a y = true then y else a) x zs) y with
          | false => rfl
          | true =>
            rcases neg _ x _ e with h3 | h3
            · have := h2 x List.mem_cons_self
              rw [this] at h3
              cases h3
            · exact absurd h3 h
        · exact h2 y (List.mem_cons_of_mem _ hy)
/-! ### list.pop(i) -/
theorem m_popAt {a : Addr} {ds : List D} {i : Nat} {d : D} (ha : M a = some (.lst ds)) (hd : ds[i]? = some d) (hi : i < 100000) (q : Q d (upM M a (.lst (ds.eraseIdx i)))) : lM rPopAt (.ref a) [.int (i : Int)] M Q := fun u us H k s ru rs p => by
  cases ru
  cases rs with
  | cons r1 r2 =>
    cases r2
    cases r1
    obtain ⟨vs, hv, hr⟩ := s.lst ha
    obtain ⟨v, hvi, rv⟩ := hr.getD hd
    have hlt := (List.getElem?_eq_some_iff.mp hvi).1
    have er : ∀ {I : Hp} {vs : List V} {ds : List D} (j : Nat), RpL I vs ds → RpL I (vs.eraseIdx j) (ds.eraseIdx j) := by
      intro I vs ds j r
      induction vs generalizing ds j with
      | nil => cases r; exact .nil
      | cons v vs ih =>
        cases r with
        | cons r1 r2 =>
          cases j with
          | zero => exact r2
          | succ j => exact .cons r1 (ih j r2)
    refine ⟨a, vs, (i : Int), i, v, rfl, rfl, hv, by omega, by omega, ?_, hvi, p _ _ _ _ q (s.set ha ⟨_, rfl, er i hr⟩) (Stp.set ha) ?_⟩
    · unfold PySem.seqIndex?
      simp
      omega
    · exact rv.mono (Stp.set ha)
end
/-! ### dicts that may change -/
def keyD : Key → D
  | .inl i => .int i
  | .inr s => .str (TL.tl s)
theorem keyD_rp {I : Hp} (k : Key) : Rp I (kV k) (keyD k) := by
  cases k with
  | inl i => exact .int i
  | inr s =>
    have h := Rp.str (I := I) (TL.tl s)
    rw [S_tl] at h
    exact h
theorem keyD_of {I : Hp} {v : V} {k : Key} (r : Rp I v (keyD k)) : v = kV k := by
  cases k with
  | inl i => cases r; rfl
  | inr s =>
    cases r
    show V.str (S (TL.tl s)) = V.str s
    rw [S_tl]
def valD (kvs : List (Key × D)) (k : Key) : Option D := (kvs.find? fun kv => decide (kv.1 = k)).map (·.2)
def putD (kvs : List (Key × D)) (k : Key) (v : D) : List (Key × D) :=
  if (kvs.any fun kv => decide (kv.1 = k)) = true then kvs.map (fun kv => if kv.1 = k then (kv.1, v) else kv) else kvs ++ [(k, v)]
def dropD (kvs : List (Key × D)) (k : Key) : List (Key × D) := kvs.filter fun kv => decide (kv.1 ≠ k)
theorem RpF.val {I : Hp} {k : Key} : ∀ {vs : List (Key × V)} {ds : List (Key × D)}, RpF I vs ds → (∀ d, valD ds k = some d → ∃ v, valV vs k = some v ∧ Rp I v d) ∧ (valD ds k = none → valV vs k = none)
  | _, _, .nil => ⟨fun d h => (by cases h), fun _ => rfl⟩
  | _, _, .cons (a := p) (b := q) (l₁ := vs) (l₂ := ds) h t => by
    obtain ⟨h1, h2⟩ := RpF.val (k := k) t
    obtain ⟨e, r⟩ := h
    by_cases z : q.1 = k
    · have e1 : valD (q :: ds) k = some q.2 := by simp [valD, List.find?_cons, z]
      have e2 : valV (p :: vs) k = some p.2 := valV_pos (e.trans z)
      refine ⟨fun d hd => ⟨p.2, e2, ?_⟩, fun hn => ?_⟩
      · rw [e1] at hd
        cases hd
        exact r
      · rw [e1] at hn
        cases hn
    · have e1 : valD (q :: ds) k = valD ds k := by simp [valD, List.find?_cons, z]
      have e2 : valV (p :: vs) k = valV vs k := valV_neg (fun w => z (e.symm.trans w))
      rw [e1, e2]
      exact ⟨h1, h2⟩
theorem RpF.isS {I : Hp} {k : Key} {vs : List (Key × V)} {ds : List (Key × D)} (h : RpF I vs ds) : (valV vs k).isSome = (valD ds k).isSome := by
  obtain ⟨h1, h2⟩ := h.val (k := k)
  cases z : valD ds k with
  | none =>
    rw [h2 z]
    rfl
  | some d =>
    obtain ⟨w, hw, _⟩ := h1 d z
    rw [hw]
    rfl
theorem RpF.any {I : Hp} {k : Key} : ∀ {vs : List (Key × V)} {ds : List (Key × D)}, RpF I vs ds → (vs.any fun kv => decide (kv.1 = k)) = ds.any fun kv => decide (kv.1 = k)
  | _, _, .nil => rfl
  | _, _, .cons h t => by
    rw [List.any_cons, List.any_cons, RpF.any t, h.1]
theorem RpF.mapIf {I : Hp} {k : Key} {v : V} {d : D} (r : Rp I v d) : ∀ {vs : List (Key × V)} {ds : List (Key × D)}, RpF I vs ds → RpF I (vs.map fun kv => if kv.1 = k then (kv.1, v) else kv) (ds.map fun kv => if kv.1 = k then (kv.1, d) else kv)
  | _, _, .nil => .nil
  | _, _, .cons (a := p) (b := q) h t => by
    refine .cons ?_ (RpF.mapIf r t)
    obtain ⟨e, h⟩ := h
    show (if p.1 = k then (p.1, v) else p).1 = (if q.1 = k then (q.1, d) else q).1 ∧ Rp I (if p.1 = k then (p.1, v) else p).2 (if q.1 = k then (q.1, d) else q).2
    by_cases z : q.1 = k
    · rw [if_pos (e.trans z), if_pos z]
      exact ⟨e, r⟩
    · rw [if_neg (fun w => z (e.symm.trans w)), if_neg z]
      exact ⟨e, h⟩
theorem RpF.snoc {I : Hp} {k : Key} {v : V} {d : D} (r : Rp I v d) : ∀ {vs : List (Key × V)} {ds : List (Key × D)}, RpF I vs ds → RpF I (vs ++ [(k, v)]) (ds ++ [(k, d)])
  | _, _, .nil => .cons ⟨rfl, r⟩ .nil
  | _, _, .cons h t => .cons h (RpF.snoc r t)
theorem RpF.put {I : Hp} {k : Key} {v : V} {d : D} (r : Rp I v d) {vs : List (Key × V)} {ds : List (Key × D)} (h : RpF I vs ds) : RpF I (L2.putK vs k v) (putD ds k d) := by
  unfold L2.putK putD
  rw [h.any]
  split
  · exact h.mapIf r
  · exact h.snoc r
theorem RpF.drop {I : Hp} {k : Key} : ∀ {vs : List (Key × V)} {ds : List (Key × D)}, RpF I vs ds → RpF I (dropK vs k) (dropD ds k)
  | _, _, .nil => .nil
  | _, _, .cons (a := p) (b := q) h t => by
    have ih := RpF.drop (k := k) t
    unfold dropK dropD at ih ⊢
    rw [List.filter_cons, List.filter_cons]
    by_cases z : q.1 = k
    · rw [if_neg (by simp [h.1, z]), if_neg (by simp [z])]
      exact ih
    · rw [if_pos (by simp [h.1, z]), if_pos (by simp [z])]
      exact .cons h ih
theorem RpF.keysL {I : Hp} : ∀ {vs : List (Key × V)} {ds : List (Key × D)}, RpF I vs ds → RpL I (vs.map fun kv => kV kv.1) (ds.map fun kv => keyD kv.1)
  | _, _, .nil => .nil
  | _, _, .cons (a := p) (b := q) h t => by
    refine .cons ?_ (RpF.keysL t)
    show Rp I (kV p.1) (keyD q.1)
    rw [h.1]
    exact keyD_rp q.1
section
variable {W : WX} {X : XD} {ρ : En} {M : Mh} {Q : D → Mh → Prop} {A : DE} {K : PySem.W.Frag} {Y : Cx}
theorem l_dnewK (h : ∀ a, M a = none → Q (.ref a) (upM M a (.dic []))) : lE W tDNewK ρ M Q X := fun σ H k s e p px => fun a ha => p _ _ _ _ (h a (s.fresh ha)) (s.newC ha ⟨[], rfl, .nil⟩) (Stp.newC ha) (.ref a)
theorem l_dget {td ty : TE} (h : lE W td ρ M (fun x M1 => lE W ty ρ M1 (fun y M2 => ∃ a kvs k d, x = .ref a ∧ M2 a = some (.dic kvs) ∧ y = keyD k ∧ valD kvs k = some d ∧ Q d M2) X) X) : lE W (tDGet td ty) ρ M Q X := fun σ H k s e p px =>
  h σ H _ s e (fun u x H1 M1 q1 s1 t1 r1 => q1 σ H1 _ s1 (e.mono t1) (fun v y H2 M2 q2 s2 t2 r2 => by
    obtain ⟨a, kvs, kk, d, rfl, hm, rfl, hv, q⟩ := q2
    cases r1
    obtain ⟨vs, ha, hr⟩ := s2.dic hm
    obtain ⟨w, hw, rw'⟩ := (hr.val (k := kk)).1 d hv
    exact ⟨a, w, rfl, .inl ⟨vs, kk, .inl ha, keyD_of r2, hw.symm⟩, p _ _ H2 M2 q s2 (t1.trans t2) rw'⟩) (px.mono t1)) px
theorem l_din {td ty : TE} (h : lE W ty ρ M (fun y M1 => lE W td ρ M1 (fun x M2 => ∃ a kvs k, x = .ref a ∧ M2 a = some (.dic kvs) ∧ y = keyD k ∧ Q (.bl (valD kvs k).isSome) M2) X) X) : lE W (tDIn ty td) ρ M Q X := fun σ H k s e p px =>
  h σ H _ s e (fun v y H1 M1 q1 s1 t1 r1 => q1 σ H1 _ s1 (e.mono t1) (fun u x H2 M2 q2 s2 t2 r2 => by
    obtain ⟨a, kvs, kk, rfl, hm, rfl, q⟩ := q2
    cases r2
    obtain ⟨vs, ha, hr⟩ := s2.dic hm
    have ev : (valV vs kk).isSome = (valD kvs kk).isSome := hr.isS
    refine ⟨a, valV vs kk, rfl, .inl ⟨vs, kk, .inl ha, keyD_of r1, rfl⟩, ?_⟩
    rw [ev]
    exact p _ _ H2 M2 q s2 (t1.trans t2) (.bl _)) (px.mono t1)) px
theorem l_dnin {td ty : TE} (h : lE W ty ρ M (fun y M1 => lE W td ρ M1 (fun x M2 => ∃ a kvs k, x = .ref a ∧ M2 a = some (.dic kvs) ∧ y = keyD k ∧ Q (.bl (!(valD kvs k).isSome)) M2) X) X) : lE W (tDNotIn ty td) ρ M Q X := fun σ H k s e p px =>
  h σ H _ s e (fun v y H1 M1 q1 s1 t1 r1 => q1 σ H1 _ s1 (e.mono t1) (fun u x H2 M2 q2 s2 t2 r2 => by
    obtain ⟨a, kvs, kk, rfl, hm, rfl, q⟩ := q2
    cases r2
    obtain ⟨vs, ha, hr⟩ := s2.dic hm
    have ev : (valV vs kk).isSome = (valD kvs kk).isSome := hr.isS
    refine ⟨a, valV vs kk, rfl, .inl ⟨vs, kk, .inl ha, keyD_of r1, rfl⟩, ?_⟩
    rw [ev]
    exact p _ _ H2 M2 q s2 (t1.trans t2) (.bl _)) (px.mono t1)) px
abbrev tDPut (td ty tv : TE) : TS := sDPut td ty tv
theorem s_dput {td ty tv : TE} (h : lE W tv ρ M (fun d M1 => lE W td ρ M1 (fun x M2 => lE W ty ρ M2 (fun y M3 => ∃ a kvs k, x = .ref a ∧ M3 a = some (.dic kvs) ∧ y = keyD k ∧ kvs.length < 100000 ∧ A.nx ρ (upM M3 a (.dic (putD kvs k d)))) X) X) X) : lS W (tDPut td ty tv) ρ M A X := fun σ H D s e p px =>
  h σ H _ s e (fun w d H1 M1 q1 s1 t1 r1 => q1 σ H1 _ s1 (e.mono t1) (fun u x H2 M2 q2 s2 t2 r2 => q2 σ H2 _ s2 (e.mono (t1.trans t2)) (fun v y H3 M3 q3 s3 t3 r3 => by
    obtain ⟨a, kvs, kk, rfl, hm, rfl, hl, q⟩ := q3
    cases r2
    obtain ⟨vs, ha, hr⟩ := s3.dic hm
    have hl' : vs.length < sizeLine := by
      rw [hr.length]
      exact line_lt (by omega)
    have T := (t1.trans t2).trans t3
    refine ⟨a, upd H3 a (.dK (L2.putK vs kk w)), rfl, ?_, p.nx _ _ _ _ q (s3.set hm ⟨_, rfl, hr.put (r1.mono (t2.trans t3))⟩) (T.trans (Stp.set hm)) (e.mono (T.trans (Stp.set hm)))⟩
    rw [keyD_of r3]
    exact DPut.k ha hl') (px.mono (t1.trans t2))) (px.mono t1)) px
theorem isD_of {H : Hp} {a : Addr} {vs : List (Key × V)} (h : H a = some (.dK vs)) : IsD H a := .inl ⟨vs, .inl h⟩
theorem l_dpop1 {td ty : TE} (h : lE W td ρ M (fun x M1 => ∃ a kvs0, x = .ref a ∧ M1 a = some (.dic kvs0) ∧ lE W ty ρ M1 (fun y M2 => ∃ kvs k d, M2 a = some (.dic kvs) ∧ y = keyD k ∧ valD kvs k = some d ∧ Q d (upM M2 a (.dic (dropD kvs k)))) X) X) : lE W (tDPop1 td ty) ρ M Q X := fun σ H k s e p px =>
  h σ H _ s e (fun u x H1 M1 q1 s1 t1 r1 => by
    obtain ⟨a, kvs0, rfl, hm0, q1⟩ := q1
    cases r1
    obtain ⟨vs0, ha0, _⟩ := s1.dic hm0
    refine ⟨a, rfl, isD_of ha0, q1 σ H1 _ s1 (e.mono t1) (fun v y H2 M2 q2 s2 t2 r2 => ?_) (px.mono t1)⟩
    obtain ⟨kvs, kk, d, hm, rfl, hv, q⟩ := q2
    obtain ⟨vs, ha, hr⟩ := s2.dic hm
    obtain ⟨w, hw, rw'⟩ := (hr.val (k := kk)).1 d hv
    exact ⟨vs, kk, w, ha, keyD_of r2, hw, p _ _ _ _ q (s2.set hm ⟨_, rfl, hr.drop⟩) ((t1.trans t2).trans (Stp.set hm)) (rw'.mono (Stp.set hm))⟩) px
theorem l_dpop2 {td ty tx : TE} (h : lE W td ρ M (fun x M1 => ∃ a kvs0, x = .ref a ∧ M1 a = some (.dic kvs0) ∧ lE W ty ρ M1 (fun y M2 => lE W tx ρ M2 (fun z M3 => ∃ kvs k, M3 a = some (.dic kvs) ∧ y = keyD k ∧ (∀ d, valD kvs k = some d → Q d (upM M3 a (.dic (dropD kvs k)))) ∧ (valD kvs k = none → Q z M3)) X) X) X) : lE W (tDPop2 td ty tx) ρ M Q X := fun σ H k s e p px =>
  h σ H _ s e (fun u x H1 M1 q1 s1 t1 r1 => by
    obtain ⟨a, kvs0, rfl, hm0, q1⟩ := q1
    cases r1
    obtain ⟨vs0, ha0, _⟩ := s1.dic hm0
    refine ⟨a, rfl, isD_of ha0, q1 σ H1 _ s1 (e.mono t1) (fun v y H2 M2 q2 s2 t2 r2 => q2 σ H2 _ s2 (e.mono (t1.trans t2)) (fun z zd H3 M3 q3 s3 t3 r3 => ?_) (px.mono (t1.trans t2))) (px.mono t1)⟩
    obtain ⟨kvs, kk, hm, rfl, qy, qn⟩ := q3
    obtain ⟨vs, ha, hr⟩ := s3.dic hm
    have T := (t1.trans t2).trans t3
    refine ⟨vs, kk, ha, keyD_of r2, fun w hw => ?_, fun hw => ?_⟩
    · cases hv : valD kvs kk with
      | none =>
        rw [(hr.val (k := kk)).2 hv] at hw
        cases hw
      | some d =>
        obtain ⟨w', hw', rw'⟩ := (hr.val (k := kk)).1 d hv
        rw [hw] at hw'
        obtain rfl := Option.some.inj hw'
        exact p _ _ _ _ (qy d hv) (s3.set hm ⟨_, rfl, hr.drop⟩) (T.trans (Stp.set hm)) (rw'.mono (Stp.set hm))
    · cases hv : valD kvs kk with
      | none => exact p _ _ H3 M3 (qn hv) s3 T r3
      | some d =>
        obtain ⟨w', hw', _⟩ := (hr.val (k := kk)).1 d hv
        rw [hw] at hw'
        cases hw') px
end
/-! ### d.keys(), its list, its sorted list -/
def KeysV (v a : Addr) : HO := .ext fun hp => PySem.W.KdlKeysView hp v a
def tKeysA (td : TE) : TE := fun σ H Q => td σ H fun x H1 => ∃ a kvs, x = .ref a ∧ H1 a = some (.dK kvs) ∧ ∀ v, H1 v = none → Q (.ref v) (upd H1 v (KeysV v a))
section
variable {Y : Cx}
theorem pe_keysA {e : Expr} {td : TE} {apos cpos : Pos} (pe : PE Y e td) (hb : attributeBase e "keys" Y.env (eval e Y.env) = eval e Y.env := by rfl) (hl : (apos.endLine == cpos.line) = true := by rfl) : PE Y (.Call (.Attribute e "keys" apos) [] [] cpos) (tKeysA td) := by
  constructor
  intro pins s σ H Q I h
  refine wpAny_Call_method (T := "dict") (id := "dict.keys") hb rfl hl PySem.F.plainAttrs_dict PySem.F.slot_dict_keys PySem.F.type_dict_keys (thn (pe.run pins s σ H _ I h) fun u s1 ⟨x, H1, I1, rx, a, kvs, ex, hd, q⟩ => ?_)
  subst ex
  obtain rfl : u = Value.ref a := rx
  obtain ⟨_, lo, vs, rel, dd⟩ := dk_of I1.hok hd
  refine ⟨dd.typeIs, dd.mapOf.noDict, ?_⟩
  have hn : H1 s1.heap.objs.size = none := I1.hok.fresh (Nat.le_refl _)
  have vw : PySem.W.KdlKeysView (s1.heap.push { cls := .type "dict_keys", data := .fields #[.ref a] }) s1.heap.objs.size a := ⟨_, Heap.get?_push_size _ rfl, rfl, rfl⟩
  have I2 : Inv Y pins σ (upd H1 s1.heap.objs.size (KeysV s1.heap.objs.size a)) { s1 with heap := s1.heap.push { cls := .type "dict_keys", data := .fields #[.ref a] } } :=
    I1.laid (t' := s1.toks) (fun b ob hq => Heap.get?_push_of_some _ hq) (Nat.le_refl _) ⟨vw, ⟨_, Heap.get?_push_size _ rfl⟩, fun h1 h2 ⟨o, ho, hc⟩ k => ⟨o, k o ho, hc⟩⟩
  have fin : EP Y pins σ Q (.ref s1.heap.objs.size) { s1 with heap := s1.heap.push { cls := .type "dict_keys", data := .fields #[.ref a] } } := ⟨.ref _, _, I2, rfl, q _ hn⟩
  show wpAny _ _ (callWith cpos (.builtin "dict.keys") [.ref a] [] []) _ Y.xe s1
  exact method_meetsIn PySem.F.slot_dict_keys PySem.F.entry_dict_keys rfl (PySem.evalArgs_none ⟨rfl, dd.typeIs, PySem.F.args_dict_keys_1 _, _, PySem.W.kdl_meets_keys (mixKind Y.prog Y.w) a lo, ⟨vs, dd⟩, fin⟩)
def rListK : List V → Hp → VK → Prop := fun xs H Q => ∃ (v a : Addr) (kvs : List (Key × V)), xs = [.ref v] ∧ H v = some (KeysV v a) ∧ H a = some (.dK kvs) ∧ ∀ l, H l = none → Q (.ref l) (upd H l (.lst (kvs.map fun kv => kV kv.1)))
theorem keys_vals {prog : Program} {w : World} {kvs : List (Key × V)} {vs : List (Key × Value)} (r : KV kvs vs) : ∀ {us : List Value}, us.length = vs.length → (∀ (j : Nat) (u : Value), us[j]? = some u → ∃ k x, vs[j]? = some (k, x) ∧ (mixKind prog w).is k u = true) → Vals (kvs.map fun kv => kV kv.1) us := by
  induction r with
  | nil =>
    intro us hl _
    obtain rfl := List.length_eq_zero_iff.mp hl
    exact .nil
  | cons h t ih =>
    intro us hl hv
    cases us with
    | nil => cases hl
    | cons u us =>
      refine .cons ?_ (ih (by simpa using hl) fun j u' hj => by simpa using hv (j + 1) u' (by simpa using hj))
      obtain ⟨k, x, e, hk⟩ := hv 0 u rfl
      simp only [List.getElem?_cons_zero, Option.some.injEq] at e
      have e1 := h.1
      rw [e] at e1
      show RelV (kV _) u
      rw [e1]
      exact relV_key (show keyIs k u = true from hk)
theorem cr_listK (hc : Y.calm = true) : CallR Y (.type "list") rListK := by
  intro pins s σ H xs us Q I r h
  obtain ⟨v, a, kvs, rfl, hv, ha, q⟩ := h
  obtain ⟨u, rfl, ru⟩ := vals1 r
  obtain rfl : u = Value.ref v := ru
  obtain ⟨hz, lo, vs, rel, dd⟩ := dk_of I.hok ha
  obtain ⟨vw, _, _⟩ := I.hok v _ hv
  obtain ⟨ep, hat⟩ := dd.dictAt
  have hlen : kvs.length = vs.length := Paired.length rel
  refine PySem.W.kdl_call (PySem.W.kdl_keys (knd := mixKind Y.prog Y.w) (kvs := vs) (ep := ep)) (I.ok.hd hc) ⟨vw, hat⟩ (by rw [← hlen]; exact hz) fun h' tk acc c kp hD hacc => ?_
  have hvv := keys_vals (prog := Y.prog) (w := Y.w) rel (us := acc.toList) (by rw [Array.length_toList]; exact hacc.1) fun j u hj => hacc.2 j u (by rw [← Array.getElem?_toList]; exact hj)
  refine ⟨.ref _, upd H s.heap.objs.size (.lst (kvs.map fun kv => kV kv.1)), I.laid (t' := tk) kp (Nat.le_refl _) ⟨by rw [List.length_map]; exact hz, acc.toList, c, hvv, ?_⟩, rfl, q _ (I.hok.fresh (Nat.le_refl _))⟩
  rw [Array.toArray_toList]
  exact hD
def rSortK : List V → Hp → VK → Prop := fun xs H Q => ∃ (v a : Addr) (kvs : List (Key × V)) (ks : List Int), xs = [.ref v] ∧ H v = some (KeysV v a) ∧ H a = some (.dK kvs) ∧ kvs.map (fun kv => kV kv.1) = ks.map V.int ∧ ∀ l, H l = none → Q (.ref l) (upd H l (.lst ((ks.mergeSort (PySem.W.dataLe false PyData.int)).map V.int)))
theorem each_ints : ∀ {ks : List Int} {us : List Value}, Vals (ks.map V.int) us → PySem.W.EachIs (fun u k => RelV (.int k) u) us ks
  | [], _, r => by
    cases r
    exact .nil
  | k :: ks, _, r => by
    cases r with
    | cons r1 r2 => exact .cons r1 (each_ints r2)
theorem ints_each : ∀ {ks : List Int} {us : List Value}, PySem.W.EachIs (fun u (k : Int) => RelV (.int k) u) us ks → Vals (ks.map V.int) us
  | _, _, .nil => .nil
  | _, _, .cons r t => .cons r (ints_each t)
theorem cr_sortK (hu : Y.A.units + 64 < cLine) (hc : Y.calm = true) : CallR Y (.builtin "sorted") rSortK := by
  intro pins s σ H xs us Q I r h
  obtain ⟨v, a, kvs, ks, rfl, hv, ha, hks, q⟩ := h
  obtain ⟨u, rfl, ru⟩ := vals1 r
  obtain rfl : u = Value.ref v := ru
  obtain ⟨hz, lo, vs, rel, dd⟩ := dk_of I.hok ha
  obtain ⟨vw, _, _⟩ := I.hok v _ hv
  obtain ⟨ep, hat⟩ := dd.dictAt
  have hlen : kvs.length = vs.length := Paired.length rel
  have hlk : ks.length = kvs.length := by
    have := congrArg List.length hks
    rw [List.length_map, List.length_map] at this
    exact this.symm
  refine Calls.call_function_entry kind_sorted plain_sorted entry_sorted (args_sorted1 _) ?_
  show wpAny _ _ (Builtin.«sorted» ⟨[.ref v], []⟩) _ _ _
  unfold Builtin.«sorted»
  refine wpAny_bind (m := checkCount "sorted" 1 1 _) (wpAny_pure ?_)
  refine wpAny_bind (PySem.W.kdu_collect (PySem.W.kdl_keys (knd := mixKind Y.prog Y.w) (kvs := vs) (ep := ep)) (I.ok.hd hc) ⟨vw, hat⟩ (by rw [← hlen]; exact hz) fun h' tk acc kp hacc => ?_)
  have hvv := keys_vals (prog := Y.prog) (w := Y.w) rel (us := acc.toList) (by rw [Array.length_toList]; exact hacc.1) fun j u hj => hacc.2 j u (by rw [← Array.getElem?_toList]; exact hj)
  rw [hks] at hvv
  have hal : acc.toList.length = ks.length := by
    have := hvv.length
    rw [List.length_map] at this
    exact this.symm
  have hz2 : ks.length ≤ sizeLine := by rw [hlk]; exact hz
  refine wpAny_bind (wpAny_newList ?_ (by rw [hal]; exact hz2))
  have ho : (h'.push (seqObj "list" acc.toList.toArray 0)).get? h'.objs.size = some (seqObj "list" acc.toList.toArray 0) := Heap.get?_push_size _ rfl
  have er := each_ints hvv
  refine wpAny_bind (wpAny_holding (PySem.W.list_sort_data (s := { s with heap := h'.push (seqObj "list" acc.toList.toArray 0), toks := tk }) (enc := PyData.int) ho er (er.mono fun u k ⟨t, e⟩ => ⟨_, by rw [e]; exact Reads.int k t, ?_⟩) (PySem.W.AllAlike.of fun _ _ => rfl) (PySem.W.Sortable.others fun _ => ⟨(fun z => nomatch z), (fun _ z => nomatch z)⟩) hz2 (fun b _ => ?_) fun out h1 h2 => ?_))
  · exact List.not_mem_nil
  · show Y.A.in1.units + 1 + 0 < cLine
    have : Y.A.in1.units = Y.A.units + 1 := rfl
    omega
  · have hv2 := ints_each h2
    obtain ⟨c, hc2⟩ := PyProof.Rows.sortedHeap_at (vs := acc.toList) (out := out.toArray) ho
    have I2 := I.kept (t' := tk) kp
    refine wpAny_pure ⟨_, rfl, .ref _, upd H h'.objs.size (.lst ((ks.mergeSort (PySem.W.dataLe false PyData.int)).map V.int)), I2.laid (t' := tk) (fun b o e => ?_) (Nat.le_refl _) ⟨?_, out, c, hv2, hc2⟩, rfl, q _ (I2.hok.fresh (Nat.le_refl _))⟩
    · exact (PyProof.Rows.sortedHeap_old (Nat.ne_of_lt (Heap.lt_size e)) (by rw [size_push']; exact Nat.lt_succ_of_lt (Heap.lt_size e))).trans (Heap.get?_push_of_some _ e)
    · rw [List.length_map, List.length_mergeSort]
      exact hz2
end
section
variable {W : WX} {X : XD} {ρ : En} {M : Mh} {Q : D → Mh → Prop} {A : DE} {K : PySem.W.Frag}
theorem l_listKeys {td : TE} (h : lE W td ρ M (fun x M1 => ∃ a kvs, x = .ref a ∧ M1 a = some (.dic kvs) ∧ Q (.lst (kvs.map fun kv => keyD kv.1)) M1) X) : lE W (tCB rListK (tCons (tKeysA td) tNil)) ρ M Q X := fun σ H k s e p px =>
  h σ H _ s e (fun u x H1 M1 q1 s1 t1 r1 => by
    obtain ⟨a, kvs, rfl, hm, q⟩ := q1
    cases r1
    obtain ⟨vs, ha, hr⟩ := s1.dic hm
    refine ⟨a, vs, rfl, ha, fun v hv => ?_⟩
    refine ⟨v, a, vs, rfl, upd_same, by rw [upd_ne (ne_of_none ha hv)]; exact ha, fun l hl => ?_⟩
    have T := (Stp.new (M := M1) (o := KeysV v a) hv).trans (Stp.new (M := M1) (o := .lst (vs.map fun kv => kV kv.1)) hl)
    exact p _ _ _ M1 q ((s1.new hv).new hl) (t1.trans T) (.lst (imm_new (s1.new hv) hl) (hr.keysL.mono T))) px
theorem l_sortKeys {td : TE} (h : lE W td ρ M (fun x M1 => ∃ (a : Addr) (kvs : List (Key × D)) (ks : List Int), x = .ref a ∧ M1 a = some (.dic kvs) ∧ (kvs.map fun kv => keyD kv.1) = ks.map D.int ∧ Q (.lst ((ks.mergeSort (PySem.W.dataLe false PyData.int)).map D.int)) M1) X) : lE W (tCB rSortK (tCons (tKeysA td) tNil)) ρ M Q X := fun σ H k s e p px =>
  h σ H _ s e (fun u x H1 M1 q1 s1 t1 r1 => by
    obtain ⟨a, kvs, ks, rfl, hm, hks, q⟩ := q1
    cases r1
    obtain ⟨vs, ha, hr⟩ := s1.dic hm
    refine ⟨a, vs, rfl, ha, fun v hv => ?_⟩
    have ek : (vs.map fun kv => kV kv.1) = ks.map V.int := by
      have := hr.keysL
      rw [hks] at this
      exact this.to_ints
    refine ⟨v, a, vs, ks, rfl, upd_same, by rw [upd_ne (ne_of_none ha hv)]; exact ha, ek, fun l hl => ?_⟩
    have T := (Stp.new (M := M1) (o := KeysV v a) hv).trans (Stp.new (M := M1) (o := .lst ((ks.mergeSort (PySem.W.dataLe false PyData.int)).map V.int)) hl)
    exact p _ _ _ M1 q ((s1.new hv).new hl) (t1.trans T) (.lst (imm_new (s1.new hv) hl) (RpL.ints _))) px
end
/-! ### int(..) -/
def rIntA : List V → Hp → VK → Prop := fun xs H Q => ((∃ i, xs = [.int i] ∧ Q (.int i) H) ∨ ∃ k, xs = [.bl k] ∧ Q (.int (if k then 1 else 0)) H) ∨ ∃ a n, xs = [.str a] ∧ PySem.intText? a = some n ∧ a.length ≤ 640 ∧ Q (.int n) H
theorem cr_intA {Y : Cx} : CallR Y (.type "int") rIntA := by
  intro pins s σ H xs us Q I r h
  rcases h with h | h
  · exact call_int1 pins s σ H xs us Q I r h
  · exact call_int_str pins s σ H xs us Q I r h
section
variable {M : Mh} {Q : D → Mh → Prop}
theorem c_intB {b : Bool} (q : Q (.int (if b then 1 else 0)) M) : lC rIntA [.bl b] M Q := fun us H k s r p => by
  cases r with
  | cons r1 r2 =>
    cases r2
    cases r1
    exact .inl (.inr ⟨b, rfl, p _ _ H M q s (Kn.refl _) (.int _)⟩)
theorem c_intS {a : List Nat} {n : Int} (h : PySem.intText? (S a) = some n) (hl : a.length ≤ 640) (q : Q (.int n) M) : lC rIntA [.str a] M Q := fun us H k s r p => by
  cases r with
  | cons r1 r2 =>
    cases r2
    cases r1
    exact .inr ⟨S a, n, rfl, h, by rw [SX.S_len]; exact hl, p _ _ H M q s (Kn.refl _) (.int _)⟩
end
/-! ### a cell that changes no more, wherever it is named in a thing -/
mutual
def frzD (a : Addr) (es : List D) : D → D
  | .ref b => if b = a then .lst es else .ref b
  | .tup ds => .tup (frzDs a es ds)
  | .lst ds => .lst (frzDs a es ds)
  | d => d
def frzDs (a : Addr) (es : List D) : List D → List D
  | [] => []
  | d :: ds => frzD a es d :: frzDs a es ds
end
mutual
theorem Rp.frzA {M : Mh} {H : Hp} {a : Addr} {es : List D} (s : Sta M H) (m : M a = some (.lst es)) : ∀ {v : V} {d : D}, Rp (imm H M) v d → Rp (imm H (deM M a)) v (frzD a es d)
  | _, _, .non => .non
  | _, _, .bl b => .bl b
  | _, _, .int i => .int i
  | _, _, .str x => .str x
  | _, _, .tup h hs => .tup (Stp.frz m _ _ h) (RpL.frzA s m hs)
  | _, _, .lst h hs => .lst (Stp.frz m _ _ h) (RpL.frzA s m hs)
  | _, _, .ref b => by
    rw [frzD]
    by_cases e : b = a
    · subst e
      rw [if_pos rfl]
      exact Rp.frz s m
    · rw [if_neg e]
      exact .ref b
  | _, _, .exc h => .exc (Stp.frz m _ _ h)
  | _, _, .ty n => .ty n
  | _, _, .opq h k => .opq (k _ _ (Stp.frz m) h) k
theorem RpL.frzA {M : Mh} {H : Hp} {a : Addr} {es : List D} (s : Sta M H) (m : M a = some (.lst es)) : ∀ {vs : List V} {ds : List D}, RpL (imm H M) vs ds → RpL (imm H (deM M a)) vs (frzDs a es ds)
  | _, _, .nil => .nil
  | _, _, .cons h hs => .cons (Rp.frzA s m h) (RpL.frzA s m hs)
end
section
variable {W : WX} {X : XD} {ρ : En} {M : Mh} {Q : D → Mh → Prop} {A : DE} {K : PySem.W.Frag}
/-- in an answer: the cells that a thing names change no more -/
theorem l_frzA {te : TE} (h : lE W te ρ M (fun d M1 => ∃ a es, M1 a = some (.lst es) ∧ Q (frzD a es d) (deM M1 a)) X) : lE W te ρ M Q X := fun σ H k s e p px =>
  h σ H k s e (fun v d H1 M1 q1 s1 t1 r1 => by
    obtain ⟨a, es, m, q⟩ := q1
    exact p _ _ H1 _ q (s1.frz m) (t1.trans (Stp.frz m)) (r1.frzA s1 m)) px
end
/-! ### a set of texts: its table rises and can be walked -/
def txOf (e : Int × Value) : Str := match e.2 with | .str k _ => k | _ => Str.empty
def TxE (P : Program) (w : World) (e : Int × Value) : Prop := ∃ k tk, e.2 = Value.str k tk ∧ e.1 = (PySem.strKind P w).hash k
def SetX (P : Program) (w : World) (h : Heap) (a : Addr) (xs : List Str) (n : Nat) : Prop :=
  ∃ o es ep t, h.get? a = some o ∧ o.ExactSet ∧ o.data = .set es ep t ∧ (∀ e ∈ es.toList, TxE P w e) ∧ (es.toList.map txOf).Nodup ∧ (∀ k, k ∈ xs ↔ k ∈ es.toList.map txOf) ∧
    es.size < scanBound ∧ t.fits es.size = true ∧ es.size = n ∧ Ris t.place.toList ∧ (w.params.followText "set-order" = true ∨ t.led = true)
section
variable {P : Program} {w : World} {h h' : Heap} {a : Addr} {xs : List Str} {n : Nat}
theorem SetX.at (R : SetX P w h a xs n) (k : ∀ o, h.get? a = some o → h'.get? a = some o) : SetX P w h' a xs n := by
  obtain ⟨o, es, ep, t, ho, r⟩ := R
  exact ⟨o, es, ep, t, k o ho, r⟩
theorem SetX.congr {ys : List Str} (R : SetX P w h a xs n) (e : ∀ k, k ∈ ys ↔ k ∈ xs) : SetX P w h a ys n := by
  obtain ⟨o, es, ep, t, ho, hx, hd, g, nd, hm, r⟩ := R
  exact ⟨o, es, ep, t, ho, hx, hd, g, nd, fun k => (e k).trans (hm k), r⟩
theorem tx_elems {l : List (Int × Value)} (g : ∀ e ∈ l, TxE P w e) : ElemsOf (PySem.strKind P w) l := fun e he => by
  obtain ⟨k, tk, h1, h2⟩ := g e he
  exact ⟨⟨k, by rw [h1]; exact strKind_is P w k tk, h2⟩, by rw [h1] <;> rfl⟩
theorem tx_is {e : Int × Value} (g : TxE P w e) (k : Str) : (PySem.strKind P w).is k e.2 = true ↔ txOf e = k := by
  obtain ⟨k0, tk, h1, _⟩ := g
  unfold txOf
  rw [h1]
  constructor
  · intro q
    obtain ⟨t, e⟩ := Value.isStrOf_shape (show Value.isStrOf k (.str k0 tk) = true from q)
    injection e
  · intro q
    subst q
    exact strKind_is P w _ tk
theorem tx_mem {l : List (Int × Value)} (g : ∀ e ∈ l, TxE P w e) (k : Str) : k ∈ l.map txOf ↔ ∃ e ∈ l, (PySem.strKind P w).is k e.2 = true := by
  rw [List.mem_map]
  constructor
  · rintro ⟨e, he, q⟩
    exact ⟨e, he, (tx_is (g e he) k).2 q⟩
  · rintro ⟨e, he, q⟩
    exact ⟨e, he, (tx_is (g e he) k).1 q⟩
end
section
variable {P : Program} {w : World} {A : Around} {E : Value → Shared → Prop} {s : Shared} {a : Addr} {xs : List Str} {n : Nat}
theorem setX_tail {g : Bool → Sem Unit} (hg : ∀ (b : Bool) (s₁ : Shared) (Q' : Unit → Shared → Prop), Q' () s₁ → wpAny (model P w) A (g b) Q' E s₁)
    {o : Obj} {es : Array (Int × Value)} {ep : Nat} {t : SetTable} (ho : s.heap.get? a = some o) (hex : o.ExactSet) (hd : o.data = .set es ep t)
    {es1 : Array (Int × Value)} {t2 : SetTable} {ys : List Str} (g1 : ∀ e ∈ es1.toList, TxE P w e) (nd1 : (es1.toList.map txOf).Nodup) (m1 : ∀ k, k ∈ ys ↔ k ∈ es1.toList.map txOf)
    (hb1 : es1.size < scanBound) (hf2 : t2.fits es1.size = true) (hr : Ris t2.place.toList) (hl : w.params.followText "set-order" = true ∨ t2.led = true) {wasDummy : Bool} {R : Option Bool → Shared → Prop}
    (hR : ∀ h', Heap.SameBut a s.heap h' → SetX P w h' a ys es1.size → R (some true) { s with heap := h' }) :
    wpAny (model P w) A (do
        storeSet a es1 t2
        if (!wasDummy && t2.tooFull) = true then do
            g (relayAll t2 es1 (SetTable.grown es1.size)).2.2
            storeSet a (relayAll t2 es1 (SetTable.grown es1.size)).1 (relayAll t2 es1 (SetTable.grown es1.size)).2.1
            pure (some true)
          else pure (some true)) R E s := by
  refine wpAny_bind (wpAny_storeSet_of ho hd ?_ (fits_of_scanBound hb1))
  have ho1 := store_at (es' := es1) (t' := t2) ho hd
  have sb1 := Heap.SameBut.update s.heap a (Obj.putSet es1 t2)
  split
  · have pm := relayAll_perm t2 es1 (SetTable.grown es1.size)
    have hf3 := relayAll_fits t2 es1 (SetTable.grown es1.size)
    have hr3 := relayAll_ris t2 es1 (SetTable.grown es1.size)
    have hl3 := relayAll_led t2 es1 (SetTable.grown es1.size)
    generalize relayAll t2 es1 (SetTable.grown es1.size) = Z at pm hf3 hr3 hl3 ⊢
    obtain ⟨es2, t3, gave⟩ := Z
    dsimp only at pm hf3 hr3 hl3 ⊢
    have hsz : es2.size = es1.size := by rw [← Array.length_toList, pm.length_eq, Array.length_toList]
    have hb2 : es2.size < scanBound := by rw [hsz]; exact hb1
    refine wpAny_bind (hg _ _ _ ?_)
    refine wpAny_bind (wpAny_storeSet_of ho1 rfl ?_ (fits_of_scanBound hb2))
    have ho2 := store_at (es' := es2) (t' := t3) ho1 rfl
    refine wpAny_pure (hR _ (sb1.trans (Heap.SameBut.update _ a _)) ?_)
    exact ⟨_, es2, _, t3, ho2, hex, rfl, fun e he => g1 e (pm.mem_iff.mp he), (pm.map txOf).nodup_iff.mpr nd1, fun k => (m1 k).trans (pm.map txOf).mem_iff.symm, hb2, hf3, hsz, hr3,
      hl.imp id fun z => by rw [hl3]; exact z⟩
  · exact wpAny_pure (hR _ sb1 ⟨_, es1, _, t2, ho1, hex, rfl, g1, nd1, m1, hb1, hf2, rfl, hr, hl⟩)
theorem setX_hashed {k : Str} {tk : Tok} {Q : Bool → Shared → Prop} (R : SetX P w s.heap a xs n) (room : n + 1 < scanBound)
    (hQ : ∀ b h' m, Heap.SameBut a s.heap h' → SetX P w h' a (xs ++ [k]) m → m ≤ n + 1 → Q b { s with heap := h' }) :
    wpAny (model P w) A (setAddHashed a (.str k tk) ((PySem.strKind P w).hash k)) Q E s := by
  obtain ⟨o, es, ep, t, ho, hex, hd, g, nd, hm, hb, hf, hn, hr, hl⟩ := R
  have hkey : (PySem.strKind P w).is k (.str k tk) = true := strKind_is P w k tk
  have hsc : (Value.str k tk).scannable = true := rfl
  have hel : ElemsOf (PySem.strKind P w) es.toList := tx_elems g
  unfold setAddHashed setAddHashedIn
  refine wpAny_holding (wpAny_bind (wpAny_setState_of ho hd hf ?_))
  dsimp only
  rw [byScan_of hsc hb hel]
  simp only [↓reduceIte]
  unfold setAddByScan
  refine wpAny_bind ?_
  refine wpAny_bind (wpAny_rule ?_)
  refine wpAny_bind (wpAny_setScan_of hkey ho hd hf hel ?_)
  cases hfi : List.findIdx? (fun e => (PySem.strKind P w).is k e.2) es.toList with
  | some j =>
    dsimp only
    obtain ⟨hj, pj, _⟩ := List.findIdx?_eq_some_iff_getElem.mp hfi
    have hSk : k ∈ xs := (hm k).2 ((tx_mem g k).2 ⟨es.toList[j], List.getElem_mem hj, pj⟩)
    refine wpAny_pure (wpAny_pure ?_)
    exact hQ _ s.heap n (Heap.SameBut.refl a s.heap) ⟨o, es, ep, t, ho, hex, hd, g, nd, fun i => by
      rw [List.mem_append, List.mem_singleton, ← hm i]
      exact ⟨fun z => z.elim id (fun e => e ▸ hSk), .inl⟩, hb, hf, hn, hr, hl⟩ (Nat.le_succ _)
  | none =>
    dsimp only
    have hnk : k ∉ es.toList.map txOf := fun z => by
      obtain ⟨e, he, q⟩ := (tx_mem g k).1 z
      have c := List.findIdx?_eq_none_iff.mp hfi e he
      rw [q] at c
      cases c
    have hgw : ∀ (b : Bool) {s₁ : Shared} {Q' : Unit → Shared → Prop}, Q' () s₁ → wpAny (model P w) A (match b with | true => rule "set.scan.the-table-gave-way" | false => pure ()) Q' E s₁ :=
      fun b s₁ Q' q => by cases b <;> first | exact wpAny_pure q | exact wpAny_rule q
    have pm := layNew_perm t es ((PySem.strKind P w).hash k) (.str k tk)
    have hf1 := layNew_fits t es ((PySem.strKind P w).hash k) (.str k tk)
    have hr1 := layNew_ris t es ((PySem.strKind P w).hash k) (.str k tk) hr
    have hl1 := layNew_led t es ((PySem.strKind P w).hash k) (.str k tk)
    generalize layNew t es ((PySem.strKind P w).hash k) (.str k tk) = Z at pm hf1 hr1 hl1 ⊢
    obtain ⟨es1, t1, wasDummy, gave⟩ := Z
    dsimp only at pm hf1 hr1 hl1 ⊢
    rw [Array.toList_push] at pm
    have pc : es1.toList.Perm (((PySem.strKind P w).hash k, Value.str k tk) :: es.toList) := pm.trans (List.perm_append_singleton _ _)
    have pk : (es1.toList.map txOf).Perm (k :: es.toList.map txOf) := pc.map txOf
    have g1 : ∀ e ∈ es1.toList, TxE P w e := fun e he => by
      rcases List.mem_cons.mp (pc.mem_iff.mp he) with z | z
      · rw [z]; exact ⟨k, tk, rfl, rfl⟩
      · exact g e z
    have nd1 : (es1.toList.map txOf).Nodup := pk.nodup_iff.mpr (List.nodup_cons.mpr ⟨hnk, nd⟩)
    have m1 : ∀ i, i ∈ xs ++ [k] ↔ i ∈ es1.toList.map txOf := fun i => by
      rw [List.mem_append, List.mem_singleton, hm i, pk.mem_iff, List.mem_cons]
      exact Or.comm
    have hsz : es1.size = n + 1 := by rw [← Array.length_toList, pc.length_eq, List.length_cons, Array.length_toList, hn]
    have hb1 : es1.size < scanBound := by rw [hsz]; exact room
    have hled : w.params.followText "set-order" = true ∨ t1.led = true := hl.imp id fun z => by rw [hl1]; exact z
    have fin : ∀ h', Heap.SameBut a s.heap h' → SetX P w h' a (xs ++ [k]) es1.size → Q true { s with heap := h' } := fun h' sb r => hQ _ h' _ sb r (Nat.le_of_eq hsz)
    refine wpAny_bind (hgw _ ?_)
    split
    · refine wpAny_bind ?_
      rw [hashByValue_scannable 8 hsc]
      refine wpAny_pure ?_
      refine setX_tail ?_ ho hex hd g1 nd1 m1 hb1 ?_ ?_ ?_ ?_
      · intro b s₁ Q' q; cases b <;> first | exact wpAny_pure q | exact wpAny_rule q
      · first | (split <;> first | exact hf1 | exact SetTable.fits_plain_off hf1) | exact hf1
      · first | (split <;> exact hr1) | exact hr1
      · first | (split <;> exact hled) | exact hled
      · intro h' sb r; dsimp only; exact wpAny_pure (fin h' sb r)
    · refine wpAny_bind (wpAny_pure ?_)
      simp only [↓reduceIte]
      refine setX_tail ?_ ho hex hd g1 nd1 m1 hb1 hf1 hr1 hled ?_
      · intro b s₁ Q' q; cases b <;> first | exact wpAny_pure q | exact wpAny_rule q
      · intro h' sb r; dsimp only; exact wpAny_pure (fin h' sb r)
theorem setX_new {h : Heap} (ho : h.get? a = some { cls := .type "set", dict := none, data := .set #[] 0 (.fresh 0 0 (!w.params.followText "set-order")) }) : SetX P w h a [] 0 :=
  ⟨_, #[], 0, _, ho, ⟨rfl, rfl, rfl⟩, rfl, (fun e he => by simp at he), (by simp), (fun k => by simp), (by decide), (by rfl), rfl, List.Pairwise.nil, by
    show _ ∨ (!w.params.followText "set-order") = true
    cases w.params.followText "set-order"
    · exact .inr rfl
    · exact .inl rfl⟩
theorem setX_loop {I : Addr} {fp wr : List Addr} {G : Array GenState → Array GenState → Prop} {n : Nat} {Pv : Nat → Value → Prop} {St : Nat → Shared → Prop} {R : Result → Shared → Prop}
    (W : WalksS P w A.in1 I fp wr G n Pv St) (S : Addr) (hSf : S ∉ fp) (ns : List Str) (hn : n = ns.length) (hb : ns.length + 1 < scanBound) (hval : ∀ i v, Pv i v → ∃ k t, ns[i]? = some k ∧ v = .str k t) :
    ∀ (k i : Nat) (s : Shared), n - i = k → i ≤ n → St i s → (∃ c, c ≤ i ∧ SetX P w s.heap S (ns.take i) c) →
      (∀ s' c, Moved (S :: wr) G s s' → c ≤ n → SetX P w s'.heap S ns c → R (.ok (.ret .none)) s') →
      codeAny (model P w) A (.builtin "set.update.loop" ⟨[.ref S, .ref I], []⟩) R s := by
  have hSw : S ∉ wr := fun h => hSf (W.sub _ h)
  have hsub : ∀ b ∈ wr, b ∈ S :: wr := fun b hb => List.mem_cons_of_mem _ hb
  intro k
  induction k with
  | zero =>
    intro i s hk' hi hst ⟨c, hc, hS⟩ hR
    have hin : i = n := by omega
    subst hin
    refine codeAny_builtin PyProof.Rows.F.entry_set_update_loop ?_
    rw [Around.under_plainId PyProof.Rows.F.plain_set_update_loop _]
    show wpAny _ A.in1 (pyNext (.ref I) >>= _) _ _ s
    refine wpAny_bind (W.done s _ _ hst fun s' hm => ?_)
    show wpAny _ A.in1 (ret Value.none) _ _ s'
    have e : ns.take i = ns := List.take_of_length_le (by omega)
    rw [e] at hS
    exact wpAny_pure (hR s' c (hm.mono hsub) hc (hS.at fun o e => hm.heap S o hSw e))
  | succ k ih =>
    intro i s hk' hi hst ⟨c, hc, hS⟩ hR
    have hlt : i < n := by omega
    refine codeAny_builtin PyProof.Rows.F.entry_set_update_loop ?_
    rw [Around.under_plainId PyProof.Rows.F.plain_set_update_loop _]
    show wpAny _ A.in1 (pyNext (.ref I) >>= _) _ _ s
    refine wpAny_bind (W.item i s _ _ hlt hst fun v s' hP hst' hm => ?_)
    obtain ⟨z, t, hz, rfl⟩ := hval i v hP
    have hS' : SetX P w s'.heap S (ns.take i) c := hS.at fun o e => hm.heap S o hSw e
    show wpAny _ A.in1 (holding [Value.str z t] (setAdd S (.str z t)) >>= _) _ _ s'
    refine wpAny_bind (wpAny_holding ?_)
    unfold setAdd
    refine wpAny_holding ?_
    refine wpAny_bind ((PySem.strKind P w).pyHash (k := z) (strKind_is _ _ _ _) ?_)
    refine setX_hashed (s := { s' with toks := s'.toks + 1 }) hS' (by omega) fun _ h' m hsb hS2 hm2 => ?_
    have hS3 : SetX P w h' S (ns.take (i + 1)) m := hS2.congr fun j => by
      rw [List.take_add_one, hz] <;> rfl
    refine wpAny_pure ⟨plainId_quiet PyProof.Rows.F.plain_set_update_loop _, ih (i + 1) _ (by omega) hlt (W.frame _ s' _ _ hst' (Nat.le_succ _) fun b hb o e => ?_) ⟨_, by omega, hS3⟩ fun s'' c2 hm'' hc'' hS'' => ?_⟩
    · rw [hsb.2 b (fun h : b = S => hSf (by rw [← h]; exact hb))]; exact e
    · refine hR s'' c2 (Moved.trans W.gtrans ((hm.mono hsub).then_heap (Nat.le_succ _) fun b o hb e => ?_) hm'') hc'' hS''
      rw [hsb.2 b (fun h : b = S => hb (by rw [h]; exact List.mem_cons_self))]; exact e
set_option maxRecDepth 100000 in
set_option maxHeartbeats 3200000 in
theorem call_set_texts {l : Addr} {items : Array Value} (ns : List Str) {Q : Value → Shared → Prop} (hh : A.handled = none) (hl : s.heap.IsList l items) (hit : StrsAre items.toList ns) (hb : ns.length + 1 < scanBound)
    (h : ∀ (h' : Heap) (tk c : Nat), SetX P w h' s.heap.objs.size ns c → c ≤ ns.length → (∀ b o, s.heap.get? b = some o → h'.get? b = some o) → Q (.ref s.heap.objs.size) { s with heap := h', toks := tk }) :
    wpAny (model P w) A (call (.type "set") [.ref l]) Q E s := by
  have hisz : items.size = ns.length := by rw [← StrsAre.len_eq hit, Array.length_toList]
  obtain ⟨c, tl, hmro⟩ := F.called_set.mro
  have hmade := F.called_set.made
  have hsub := F.called_set.sub
  refine wpAny_call (codeAny_of_tree ?_)
  show wpAny _ _ (callAny (.type "set") _) _ _ _
  refine wpAny_pure ⟨Code.quiet_builtin _ (by decide +kernel), codeAny_builtin PySem.F.entry_type_call ?_⟩
  rw [Around.under_plain (weight_type_call_type "set" [.ref l] []) rfl]
  have h1 := F.called_set.notType
  have h2 := F.called_set.canCreate
  have hct := F.typeCall_set_1 (.ref l)
  repeat (any_goals (first | assumption | wp_step))

  refine codeAny_mono (code_set_led1 (.ref l) (E := E) (Q₁ := fun obj s₁ => obj = .ref s.heap.objs.size ∧ s₁ = { s with heap := s.heap.push { cls := .type "set", dict := none, data := .set #[] 0 (.fresh 0 0 (!w.params.followText "set-order")) } }) ⟨rfl, rfl⟩) fun r s₁ hr => ?_
  cases r with
  | error e => exact hr
  | ok fl =>
    cases fl with
    | ret obj =>
      obtain ⟨rfl, rfl⟩ := hr
      have hS : (s.heap.push { cls := .type "set", dict := none, data := .set #[] 0 (.fresh 0 0 (!w.params.followText "set-order")) }).get? s.heap.objs.size = some { cls := .type "set", dict := none, data := .set #[] 0 (.fresh 0 0 (!w.params.followText "set-order")) } := Heap.get?_push_size _ rfl
      have hT : Shared.TypeIs { s with heap := s.heap.push { cls := .type "set", dict := none, data := .set #[] 0 (.fresh 0 0 (!w.params.followText "set-order")) } } (.ref s.heap.objs.size) "set" := ⟨_, hS, rfl⟩
      have hli := F.called_set.init.lookup
      have hbi := F.called_set.init.bind (.ref s.heap.objs.size)
      repeat (any_goals (first | assumption | wp_step))

      refine codeAny_mono (codeAny_call_builtin (R := wants (fun r s₂ => r = .none ∧ ∃ h' tk c, s₂ = { s with heap := h', toks := tk } ∧ SetX P w h' s.heap.objs.size ns c ∧ c ≤ ns.length ∧
          (∀ b o, s.heap.get? b = some o → h'.get? b = some o)) E) F.called_set.init.plain F.entry_set_init (check_set_init_1 hT ?_)) fun r₂ s₂ hr₂ => ?_
      · obtain ⟨ol, hol, hcl, nl, hdl⟩ := hl
        obtain ⟨ocls, odict, odata, oslots⟩ := ol
        simp only at hcl hdl
        subst hcl; subst hdl
        have hol' : (s.heap.push { cls := .type "set", dict := none, data := .set #[] 0 (.fresh 0 0 (!w.params.followText "set-order")) }).get? l = some { cls := .type "list", dict := odict, data := .seq items nl, slots := oslots } := Heap.get?_push_of_some _ hol
        have hsls := F.sub_list_set
        have hslf := F.sub_list_frozenset
        have hne : (Value.type "list" == Value.type "dict") = false := by decide
        have hl1 : (s.heap.push { cls := .type "set", dict := none, data := .set #[] 0 (.fresh 0 0 (!w.params.followText "set-order")) }).IsList l items := ⟨_, hol', rfl, nl, rfl⟩
        unfold Builtin.«set.__init__» noKeywords Builtin.Frozenset.updateFrom
        generalize hPI : pyIter = PI
        wp_walk
        subst hPI

        refine wpAny_pyIter_list hl1 ?_
        refine wpAny_bind (wpAny_runValue ?_)
        have hlS : l < s.heap.objs.size := Heap.lt_size hol
        have hh3 : A.in1.in1.in1.handled = none := by simp [hh]
        have hneI : l ≠ (s.heap.push { cls := .type "set", dict := none, data := .set #[] 0 (.fresh 0 0 (!w.params.followText "set-order")) }).objs.size := by
          rw [Heap.size_push]; exact Nat.ne_of_lt (Nat.lt_succ_of_lt hlS)
        have hSf : s.heap.objs.size ∉ [(s.heap.push { cls := .type "set", dict := none, data := .set #[] 0 (.fresh 0 0 (!w.params.followText "set-order")) }).objs.size, l] := by
          rw [Heap.size_push]; simp only [List.mem_cons, List.mem_singleton, List.not_mem_nil, or_false, not_or]
          exact ⟨Nat.ne_of_lt (Nat.lt_succ_self _), Nat.ne_of_gt hlS⟩
        have hval : ∀ (i : Nat) (v : Value), items[i]? = some v → ∃ k t, ns[i]? = some k ∧ v = .str k t := fun i v hv => by
          obtain ⟨y, t, e, q⟩ := PyProof.Rows.StrsAre.item hit i v (by rw [Array.getElem?_toList]; exact hv)
          exact ⟨y, t, q, e⟩
        refine setX_loop ((Walks.list hh3 _ l hneI items).toS) s.heap.objs.size
          hSf ns hisz hb hval (items.size - 0) 0 _ (by omega) (Nat.zero_le _)
          ⟨⟨_, Heap.get?_push_size _ rfl, rfl, rfl⟩, (hl1.push _)⟩ ?hS0 ?hR
        case hS0 =>
          have hget : ((s.heap.push { cls := .type "set", dict := none, data := .set #[] 0 (.fresh 0 0 (!w.params.followText "set-order")) }).push { cls := .type "list_iterator", data := .fields #[.ref l, .int 0 0] }).get? s.heap.objs.size
              = some { cls := .type "set", dict := none, data := .set #[] 0 (.fresh 0 0 (!w.params.followText "set-order")) } := Heap.get?_push_of_some _ hS
          exact ⟨0, Nat.le_refl 0, setX_new hget⟩
        case hR =>
          intro s' c' hm hc' hS'
          obtain ⟨h', g2, d', tk', os'⟩ := s'
          have eg : g2 = s.gens := hm.gens
          have ed : d' = s.drawn := hm.drawn
          have eo : os' = s.os := hm.os
          subst eg; subst ed; subst eo
          show wpAny _ _ _ _ _ _
          refine wpAny_pure ?_
          show wpAny _ _ (ret Value.none) _ _ _
          rw [hisz] at hc'
          refine wpAny_pure ⟨rfl, h', tk', c', rfl, hS', hc', fun b o e => ?_⟩
          have hb0 : b < s.heap.objs.size := Heap.lt_size e
          have hb1 : b ≠ s.heap.objs.size := Nat.ne_of_lt hb0
          have hb2 : b ≠ (s.heap.push { cls := .type "set", dict := none, data := .set #[] 0 (.fresh 0 0 (!w.params.followText "set-order")) }).objs.size := by
            rw [Heap.size_push]; exact Nat.ne_of_lt (Nat.lt_succ_of_lt hb0)
          exact hm.heap b o (by simp only [List.mem_cons, List.mem_singleton, List.not_mem_nil, or_false, not_or]; exact ⟨hb1, hb2⟩) (Heap.get?_push_of_some _ (Heap.get?_push_of_some _ e))

      · cases r₂ with
        | error e => exact hr₂
        | ok fl₂ =>
          cases fl₂ with
          | ret r =>
            obtain ⟨rfl, h', tk, c, rfl, hS', hc', hk'⟩ := hr₂
            repeat (any_goals (first | assumption | wp_step))
            exact h _ _ _ hS' hc' hk'
          | _ => exact hr₂.elim
    | _ => exact hr.elim
end
/-! ### as things of the walk -/
def SetTx (P : Program) (w : World) (a : Addr) (xs : List Str) : HO := .ext fun h => ∃ c, c ≤ xs.length ∧ SetX P w h a xs c
theorem strs_of_valsS : ∀ {xs : List Str} {us : List Value}, Vals (xs.map V.str) us → StrsAre us xs
  | [], _, r => by cases r; exact .nil
  | x :: xs, _, r => by
    cases r with
    | cons r1 r2 =>
      obtain ⟨t, rfl⟩ := r1
      exact .cons _ t (strs_of_valsS r2)
def rSetTx (P : Program) (w : World) (K : PySem.W.Frag) : List V → Hp → VK → Prop := fun xs H Q => ∃ (p : Addr) (ts : List Str), xs = [.ref p] ∧ SqL K H p (ts.map V.str) ∧ ts.length ≤ 1000 ∧ ∀ a, H a = none → Q (.ref a) (upd H a (SetTx P w a ts))
def rSortTx (P : Program) (w : World) : List V → Hp → VK → Prop := fun xs H Q => ∃ (a : Addr) (ts : List Str), xs = [.ref a] ∧ H a = some (SetTx P w a ts) ∧ ts.length ≤ 1000 ∧
  ∀ zs : List Str, zs.Nodup → (∀ k, k ∈ zs ↔ k ∈ ts) → zs.Pairwise (fun x y => x.cps.toList ≤ y.cps.toList) → ∀ l, H l = none → Q (.ref l) (upd H l (.lst (zs.map V.str)))
section
variable {Y : Cx}
theorem cr_setTx (hc : Y.calm = true) : CallR Y (.type "set") (rSetTx Y.prog Y.w Y.K) := by
  intro pins s σ H xs us Q I r h
  obtain ⟨p, ts, rfl, hs, hn, q⟩ := h
  obtain ⟨u, rfl, ru⟩ := vals1 r
  obtain rfl : u = Value.ref p := ru
  obtain ⟨its, rv, hl, hlen⟩ := I.list hs
  have hi : StrsAre its.toArray.toList ts := strs_of_valsS rv
  refine call_set_texts ts (I.ok.hd hc) hl.isList hi (by unfold scanBound; omega) fun h' tk c R1 hcn k => ?_
  refine ⟨.ref _, upd H s.heap.objs.size (SetTx Y.prog Y.w s.heap.objs.size ts), I.laid (t' := tk) k (Nat.le_refl _) ?_, rfl, q _ (I.hok.fresh (Nat.le_refl _))⟩
  have ⟨o, _, _, _, ho, _⟩ := R1
  exact ⟨⟨c, hcn, R1⟩, ⟨o, ho⟩, fun h1 h2 ⟨c2, l2, p2⟩ k2 => ⟨c2, l2, SetX.at p2 k2⟩⟩
theorem each_strs : ∀ {ks : List Str} {us : List Value}, StrsAre us ks → PySem.W.EachIs (fun u (k : Str) => RelV (.str k) u) us ks
  | _, _, .nil => .nil
  | _, _, .cons k t r => .cons ⟨t, rfl⟩ (each_strs r)
theorem strs_each : ∀ {ks : List Str} {us : List Value}, PySem.W.EachIs (fun u (k : Str) => RelV (.str k) u) us ks → Vals (ks.map V.str) us
  | _, _, .nil => .nil
  | _, _, .cons r t => .cons r (strs_each t)
theorem strs_all : ∀ (l : List Value), (∀ v ∈ l, ∃ k tk, v = Value.str k tk) → StrsAre l (l.map fun v => txOf (0, v))
  | [], _ => .nil
  | v :: l, h => by
    obtain ⟨k, tk, rfl⟩ := h v List.mem_cons_self
    exact .cons k tk (strs_all l fun u hu => h u (List.mem_cons_of_mem _ hu))
theorem cr_sortTx (hu : Y.A.units + 64 < cLine) (hc : Y.calm = true) : CallR Y (.builtin "sorted") (rSortTx Y.prog Y.w) := by
  intro pins s σ H xs us Q I r h
  obtain ⟨a, ts, rfl, ha, hlt, q⟩ := h
  obtain ⟨u, rfl, ru⟩ := vals1 r
  obtain rfl : u = Value.ref a := ru
  obtain ⟨⟨c, hcn, o, es, ep, t, ho, hex, hd, g, nd, hm, hb, hf, hn, hr, hl⟩, _, _⟩ := I.hok a _ ha
  refine Calls.call_function_entry kind_sorted plain_sorted entry_sorted (args_sorted1 _) ?_
  show wpAny _ _ (Builtin.«sorted» ⟨[.ref a], []⟩) _ _ _
  unfold Builtin.«sorted»
  refine wpAny_bind (m := checkCount "sorted" 1 1 _) (wpAny_pure ?_)
  refine wpAny_bind (collect_set (A := Y.A.in1) (I.ok.hd hc) ⟨o, ho, hex.1, hd⟩ hf hb hr hl fun s1 vs k1 hz g1 o1 pm => ?_)
  have hvl : vs.length = c := by rw [pm.length_eq, List.length_map, Array.length_toList]; exact hn
  have hI : StrsAre vs (vs.map fun v => txOf (0, v)) := strs_all vs fun v hv => by
    obtain ⟨e, he, q⟩ := List.mem_map.mp (pm.mem_iff.mp hv)
    obtain ⟨k, tk, h1, _⟩ := g e he
    exact ⟨k, tk, by rw [← q]; exact h1⟩
  have pk : (vs.map fun v => txOf (0, v)).Perm (es.toList.map txOf) := by
    have q := pm.map fun v => txOf (0, v)
    rw [List.map_map] at q
    exact q
  generalize hks : (vs.map fun v => txOf (0, v)) = ks at hI pk
  have hkl : ks.length = c := by rw [← hks, List.length_map]; exact hvl
  have hz2 : ks.length ≤ sizeLine := by rw [hkl, sizeLine_eq]; omega
  refine wpAny_bind (wpAny_newList ?_ (by rw [hvl, sizeLine_eq]; omega))
  have hoL : (s1.heap.push (seqObj "list" vs.toArray 0)).get? s1.heap.objs.size = some (seqObj "list" vs.toArray 0) := Heap.get?_push_size _ rfl
  have er := each_strs hI
  refine wpAny_bind (wpAny_holding (PySem.W.list_sort_data (s := { s1 with heap := s1.heap.push (seqObj "list" vs.toArray 0) }) (enc := PyData.str) hoL er (er.mono fun u k ⟨t, e⟩ => ⟨_, by rw [e]; exact Reads.str k t, ?_⟩) (PySem.W.AllAlike.of fun _ _ => rfl) (PySem.W.Sortable.others fun _ => ⟨(fun z => nomatch z), (fun _ z => nomatch z)⟩) hz2 (fun b _ => ?_) fun out h1 h2 => ?_))
  · exact List.not_mem_nil
  · show Y.A.in1.units + 1 + 0 < cLine
    have : Y.A.in1.units = Y.A.units + 1 := rfl
    omega
  · have hv2 := strs_each h2
    obtain ⟨c3, hc3⟩ := PyProof.Rows.sortedHeap_at (vs := vs) (out := out.toArray) hoL
    have pz := List.mergeSort_perm ks (PySem.W.dataLe false PyData.str)
    have hp : (ks.mergeSort (PySem.W.dataLe false PyData.str)).Pairwise (fun x y => x.cps.toList ≤ y.cps.toList) := by
      have tot := PySem.W.sortLe_total (listOrd itemOrd) false fun b : Str => PySem.W.keyToks (PyData.str b)
      have p0 := List.pairwise_mergeSort (le := PySem.W.dataLe false PyData.str) (fun a b c => tot.trans a b c) (fun a b => by
        rcases tot.total a b with h | h
        · rw [show PySem.W.dataLe false PyData.str a b = true from h]; rfl
        · rw [show PySem.W.dataLe false PyData.str b a = true from h, Bool.or_true]) ks
      refine p0.imp fun {x y} h => ?_
      rw [show PySem.W.dataLe false PyData.str = _ from PySem.W.dataLe_str (fun b : Str => b)] at h
      exact of_decide_eq_true h
    have hm2 : ∀ k, k ∈ ks.mergeSort (PySem.W.dataLe false PyData.str) ↔ k ∈ ts := fun k => by rw [pz.mem_iff, pk.mem_iff, ← hm k]
    have hnd2 : (ks.mergeSort (PySem.W.dataLe false PyData.str)).Nodup := pz.nodup_iff.mpr (pk.nodup_iff.mpr nd)
    have hzl : (ks.mergeSort (PySem.W.dataLe false PyData.str)).length = ks.length := List.length_mergeSort _
    generalize hzz : ks.mergeSort (PySem.W.dataLe false PyData.str) = zs at hv2 hp hm2 hnd2 hzl
    have hnn : H s1.heap.objs.size = none := I.hok.fresh hz
    have kk : ∀ b u, s.heap.get? b = some u → (PyProof.Rows.sortedHeap (s1.heap.push (seqObj "list" vs.toArray 0)) s1.heap.objs.size vs out.toArray).get? b = some u := fun b u e => by
      have q := k1 b u e
      have hlt := Heap.lt_size q
      rw [sortedHeap_old (Nat.ne_of_lt hlt) (by rw [size_push']; exact Nat.lt_succ_of_lt hlt)]
      exact Heap.get?_push_of_some _ q
    have J : Inv Y pins σ (upd H s1.heap.objs.size (.lst (zs.map V.str))) { s with heap := PyProof.Rows.sortedHeap (s1.heap.push (seqObj "list" vs.toArray 0)) s1.heap.objs.size vs out.toArray, gens := s1.gens, drawn := s1.drawn, toks := s1.toks } :=
      I.call (ch := []) (Un.laid kk hz hnn) (I.hok.laid kk hz ⟨by rw [List.length_map, hzl]; exact hz2, out, c3, hv2, hc3⟩) (by rw [g1]; exact I.bare) (fun _ z => nomatch z)
    refine wpAny_pure ⟨_, rfl, ?_⟩
    have e : ({ s1 with heap := PyProof.Rows.sortedHeap (s1.heap.push (seqObj "list" vs.toArray 0)) s1.heap.objs.size vs out.toArray } : Shared) = { s with heap := PyProof.Rows.sortedHeap (s1.heap.push (seqObj "list" vs.toArray 0)) s1.heap.objs.size vs out.toArray, gens := s1.gens, drawn := s1.drawn, toks := s1.toks } := by
      cases s1
      cases s
      cases o1
      rfl
    rw [e]
    exact ⟨.ref _, _, J, rfl, q zs hnd2 hm2 hp _ hnn⟩
end
/-! ### sorted(set(e)) -/
def tMo (t : TE) : TE := fun σ H Q => ∃ Q' : VK, t σ H Q' ∧ ∀ v H1, Q' v H1 → Q v H1
def tSrtSet (K : PySem.W.Frag) (te : TE) : TE := fun σ H Q => te σ H fun x H1 => ∃ (p : Addr) (ts : List Str), x = .ref p ∧ SqL K H1 p (ts.map V.str) ∧ ts.length ≤ 1000 ∧
  ∀ zs : List Str, zs.Nodup → (∀ k, k ∈ zs ↔ k ∈ ts) → zs.Pairwise (fun x y => x.cps.toList ≤ y.cps.toList) → ∀ (v : Addr) (O : HO) (l : Addr), H1 v = none → upd H1 v O l = none → Q (.ref l) (upd (upd H1 v O) l (.lst (zs.map V.str)))
section
variable {Y : Cx}
theorem pe_mo {e : Expr} {t : TE} (p : PE Y e t) : PE Y e (tMo t) := ⟨fun pins s σ H Q I ⟨Q', h, m⟩ => wpAny_mono (p.run pins s σ H Q' I h) (fun _ _ ⟨v, H', I', r, q⟩ => ⟨v, H', I', r, m _ _ q⟩) fun _ _ z => z⟩
theorem pe_srtSet {e : Expr} {te : TE} {p1 p2 c1 c2 : Pos} (hu : Y.A.units + 64 < cLine) (hc : Y.calm = true) (g1 : Gl Y "sorted") (m1 : Y.mg "sorted" = none) (v1 : bootBuiltins "sorted" = some (.builtin "sorted")) (g2 : Gl Y "set") (m2 : Y.mg "set" = none) (v2 : bootBuiltins "set" = some (.type "set")) (pe : PE Y e te)
    (h1 : starEach [.Call (.Name "set" p2) [e] [] c2] Y.env = (false, eval (.Call (.Name "set" p2) [e] [] c2) Y.env) :: starEach [] Y.env := by rfl) (h2 : starEach [e] Y.env = (false, eval e Y.env) :: starEach [] Y.env := by rfl) :
    PE Y (.Call (.Name "sorted" p1) [.Call (.Name "set" p2) [e] [] c2] [] c1) (tSrtSet Y.K te) :=
  ⟨fun pins s σ H Q I h => (pe_callB (cr_sortTx hu hc) g1 m1 v1 (pa_cons (pe_callTy (cr_setTx hc) g2 m2 v2 (pa_cons (pe_mo pe) pa_nil h2) (by decide) (by decide) h2) pa_nil h1) (by decide) (by decide) h1).run pins s σ H Q I
    ⟨_, h, fun x H1 ⟨p, ts, ex, hs, hn, q⟩ => ⟨p, ts, by rw [ex], hs, hn, fun a ha => ⟨a, ts, rfl, upd_same, hn, fun zs n m pw l hl => q zs n m pw a _ l ha hl⟩⟩⟩⟩
end
section
variable {W : WX} {X : XD} {ρ : En} {M : Mh} {Q : D → Mh → Prop} {K : PySem.W.Frag}
theorem l_sortSet {te : TE} (h : lE W te ρ M (fun x M1 => ∃ xs : List (List Nat), isL M1 x (xs.map D.str) ∧ xs.length ≤ 1000 ∧ ∀ zs : List (List Nat), zs.Nodup → (∀ k, k ∈ zs ↔ k ∈ xs) → zs.Pairwise (· ≤ ·) → Q (.lst (zs.map D.str)) M1) X) :
    lE W (tSrtSet K te) ρ M Q X := fun σ H k s e p px =>
  h σ H _ s e (fun u x H1 M1 q1 s1 t1 r1 => by
    obtain ⟨xs, hx, hn, q⟩ := q1
    obtain ⟨a, vs, rfl, ha, hr⟩ := isL_sq hx s1 r1
    have ev := hr.to_strs
    refine ⟨a, xs.map S, rfl, ?_, by rw [List.length_map]; exact hn, fun zs hnd hm hp v O l hv hl => ?_⟩
    · rw [List.map_map]
      have z : SqL K H1 a vs := SqL.of ha
      rw [ev] at z
      exact z
    have T := (Stp.new (M := M1) (o := O) hv).trans (Stp.new (M := M1) (o := .lst (zs.map V.str)) hl)
    have ez : zs.map V.str = (zs.map TL.tl).map fun x => V.str (S x) := by
      rw [List.map_map]
      refine List.map_congr_left fun z _ => ?_
      show V.str z = V.str (S (TL.tl z))
      rw [S_tl]
    refine p _ _ _ M1 (q (zs.map TL.tl) ?_ (fun k => ?_) ?_) ((s1.new hv).new hl) (t1.trans T) (.lst (imm_new (s1.new hv) hl) (by rw [ez]; exact RpL.strs _))
    · unfold List.Nodup
      rw [List.pairwise_map]
      exact hnd.imp fun {x y} h e => h (by rw [← S_tl x, ← S_tl y, e])
    · constructor
      · intro z
        obtain ⟨x, hx1, rfl⟩ := List.mem_map.mp z
        obtain ⟨y, hy, e⟩ := List.mem_map.mp ((hm x).mp hx1)
        have : TL.tl x = y := (congrArg TL.tl e).symm.trans (TL.tl_mk y)
        rw [this]
        exact hy
      · intro z
        exact List.mem_map.mpr ⟨S k, (hm _).mpr (List.mem_map_of_mem z), TL.tl_mk k⟩
    · exact List.pairwise_map.mpr hp) px
end

/-! ### texts: what the program's functions compute -/
def okC (c : Nat) : Bool := decide (32 ≤ c) && decide (c < 127) && decide (c ≠ 37)
def okT (m : Nat) (s : List Nat) : Bool := decide (s.length ≤ m) && s.all okC
def words (s : List Nat) : List (List Nat) := TL.spl [32] 0 [] s
def fold (s : List Nat) : List Nat := TL.joinL [32] ((words (s.map lo1)).filter fun w => decide (w ≠ []))
def optD : Option Nat → D
  | some n => .int (n : Int)
  | none => .non
def rankF (m w : List Nat) : Option Nat := if m = w then some 0 else if isAt w m 0 = true then some 1 else if hasT (32 :: w) m = true then some 2 else if hasT w m = true then some 3 else none
def rankP (row query : List Nat) : Option Nat := rankF (fold row) (fold query)
/-! the promises -/
def ds_look_text (g : G) : DSp := fun xs M Q E => ∃ (s : List Nat) (m : Nat), xs = [.str s, .int (m : Int)] ∧ s.length ≤ 1000 ∧ (okT m s = true → Q .non M) ∧ (okT m s = false → E g.cT M)
abbrev sp_look_text (g : G) : Sp := lift 2 (ds_look_text g)
def ds_folded (g : G) : DSp := fun xs M Q E => ∃ s : List Nat, xs = [.str s] ∧ s.length ≤ 1000 ∧ (okT 20 s = true → Q (.str (fold s)) M) ∧ (okT 20 s = false → E g.cT M)
abbrev sp_folded (g : G) : Sp := lift 1 (ds_folded g)
def ds_rank (g : G) : DSp := fun xs M Q E => ∃ row query : List Nat, xs = [.str row, .str query] ∧ row.length ≤ 1000 ∧ query.length ≤ 1000 ∧ ((okT 12 query && okT 20 row) = true → Q (optD (rankP row query)) M) ∧ ((okT 12 query && okT 20 row) = false → E g.cT M)
abbrev sp_rank (g : G) : Sp := lift 2 (ds_rank g)
abbrev nm_look_text : List Str := ["text", "most", "sign"]
def t_look_text (g : G) (W : WX) : TS := (tIfS (tOr (tTest (tOp (rGtA) (tCB (rLenA g.K) (tCons (tVar 0) tNil)) (tVar 1))) (tNot (tB (tCB (rAll g.K) (tCons (tLc (iStr (tVar 0)) (gName 2) tYes (tAndV (tChain (rLeA) (rLtA) (tC (.int 32)) (tCB (rOrd) (tCons (tVar 2) tNil)) (tC (.int 127))) (tOp (rNeA g.K) (tCB (rOrd) (tCons (tVar 2) tNil)) (tC (.int 37)))) [2]) tNil))))) (tRaiseC g.cT W) tNext)
abbrev nm_folded : List Str := ["text", "word"]
def t_folded (g : G) (W : WX) : TS := (tSeq (tDrop (tCallS (sp_look_text g) (WE W) (tCons (tVar 0) (tCons (tC (.int 20)) tNil)))) (tRet (tBM g.K "str" (rJoin g.K) (tC (.str (S [32]))) (tCons (tLc (iList g.K (tBM g.K "str" (rSplit) (tBM0 g.K "str" (rLower) (tVar 0)) (tCons (tC (.str (S [32]))) tNil))) (gName 1) (tTest (tOp (rNeA g.K) (tVar 1) (tC (.str (S []))))) (tVar 1) [1]) tNil))))
abbrev nm_rank : List Str := ["row", "query", "mine", "wanted"]
def t_rank (g : G) (W : WX) : TS := (tSeq (tDrop (tCallS (sp_look_text g) (WE W) (tCons (tVar 1) (tCons (tC (.int 12)) tNil)))) (tSeq (tAsg (tCallS (sp_folded g) (WE W) (tCons (tVar 0) tNil)) (gName 2)) (tSeq (tAsg (tCallS (sp_folded g) (WE W) (tCons (tVar 1) tNil)) (gName 3)) (tSeq (tIfS (tTest (tOp (rEqA g.K) (tVar 2) (tVar 3))) (tRet (tC (.int 0))) tNext) (tSeq (tIfS (tB (tBM g.K "str" (rStarts) (tVar 2) (tCons (tVar 3) tNil))) (tRet (tC (.int 1))) tNext) (tSeq (tIfS (tTest (tOp (rInA g.K) (tOp (rAddA g.K) (tC (.str (S [32]))) (tVar 3)) (tVar 2))) (tRet (tC (.int 2))) tNext) (tRet (tIf (tTest (tOp (rInA g.K) (tVar 3) (tVar 2))) (tC (.int 3)) (tC .non)))))))))
local macro_rules | `(tactic| walk_at "d1") => `(tactic| first
  | with_reducible refine s_seq ?_
  | with_reducible refine s_next ?_
  | with_reducible refine s_asg ?_
  | (with_reducible refine' g_nameN ?h ?_; (case h => first | (simp only [wipeD, List.set]; exact rfl) | exact rfl))
  | with_reducible refine s_ret ?_
  | with_reducible refine s_retN ?_
  | with_reducible refine s_drop ?_
  | with_reducible refine s_if ?_
  | with_reducible refine t_test ?_
  | with_reducible refine t_B ?_
  | with_reducible refine t_not ?_
  | with_reducible refine t_or ?_
  | with_reducible refine t_and ?_
  | with_reducible refine t_truA ?_
  | with_reducible refine l_op ?_
  | with_reducible refine l_un ?_
  | with_reducible refine l_var rfl ?_
  | with_reducible refine l_int ?_
  | with_reducible refine l_strS ?_
  | with_reducible refine l_non ?_
  | with_reducible refine l_bl ?_
  | with_reducible refine l_ref ?_
  | with_reducible refine l_ty ?_
  | with_reducible refine l_andV ?_
  | with_reducible refine l_orV ?_
  | with_reducible refine l_notV ?_
  | with_reducible refine l_if ?_
  | with_reducible refine l_chainA ?_
  | with_reducible refine a_cons ?_
  | with_reducible refine a_nil ?_
  | with_reducible refine l_tup ?_
  | with_reducible refine l_call ?_
  | with_reducible refine l_cb ?_
  | with_reducible refine l_bmS ?_
  | with_reducible refine l_bm0S ?_
  | with_reducible refine l_sl ?_
  | with_reducible refine o_none ?_
  | with_reducible refine o_some ?_
  | with_reducible refine r_addI ?_
  | with_reducible refine r_sub ?_
  | with_reducible refine r_lt ?_
  | with_reducible refine r_le ?_
  | with_reducible refine r_gt ?_
  | with_reducible refine r_ge ?_
  | with_reducible refine r_eqS ?_
  | with_reducible refine r_neS ?_
  | with_reducible refine r_eqI ?_
  | with_reducible refine r_neI ?_
  | with_reducible refine r_eqB ?_
  | with_reducible refine r_neB ?_
  | with_reducible refine r_inS ?_
  | with_reducible refine r_ninS ?_
  | with_reducible refine u_neg ?_
  | with_reducible refine r_isN rfl ?_
  | with_reducible refine r_notN rfl ?_
  | with_reducible refine c_ord ?_
  | with_reducible refine c_max2 ?_
  | with_reducible refine c_min2 ?_
  | with_reducible refine m_starts ?_
  | with_reducible refine m_find ?_
  | with_reducible refine s_raiseC ?_
  | with_reducible refine t_yes ?_
  | with_reducible refine br_t ?_
  | with_reducible refine br_f ?_
  | with_reducible refine i_str ?_
  | with_reducible refine i_list ?_
  | with_reducible refine i_tup ?_
  | with_reducible refine i_rng1 ?_
  | (with_reducible refine c_lenS ?h ?_; (case h => first | omega | (simp; done)))
  | refine Exists.intro _ (And.intro rfl ?_)
  | refine And.intro rfl ?_
  | refine And.intro (Exists.intro _ rfl) ?_
  | refine And.intro (Nat.le_of_ble_eq_true rfl) ?_)
local macro_rules | `(tactic| walk_at "d") => `(tactic| repeat (walk_at "d1"))
theorem d_look_text {g : G} : Keeps 2 nm_look_text (t_look_text g) (ds_look_text g) := by
  rintro W xs M Q E - ⟨s, m, rfl, hl, q1, q2⟩
  show lS W (t_look_text g W) [some (.str s), some (.int m), none] M _ _
  unfold t_look_text
  walk_at "d"
  refine ⟨fun h => ?_, fun h => ?_⟩
  · walk_at "d"
    refine q2 ?_
    unfold okT
    rw [decide_eq_false (by have := of_decide_eq_true h; omega)]
    rfl
  · have h1 : s.length ≤ m := by
      have := of_decide_eq_false h
      omega
    walk_at "d"
    refine l_lcP (wip_name (by decide)) ?_
    walk_at "d"
    refine ⟨fun d => match d with | .str [c] => some (.bl (okC c)) | _ => none, by rw [List.length_map]; omega, fun _ _ => trivial, ?_, ?_⟩
    · intro d hd M' _
      obtain ⟨c, hc, rfl⟩ := List.mem_map.mp hd
      walk_at "d"
      have fin : ∀ b : Bool, b = okC c → (match (D.str [c] : D) with | .str [c] => some (D.bl (okC c)) | _ => none) = some (.bl b) := fun b e => by rw [e]
      refine ⟨fun h2 => ?_, fun h2 => ?_⟩
      · walk_at "d"
        refine ⟨fun h3 => ?_, fun h3 => ?_⟩
        · walk_at "d"
          refine fin _ ?_
          unfold okC
          have e2 : 32 ≤ c := by have := of_decide_eq_true h2; omega
          have e3 : c < 127 := by have := of_decide_eq_true h3; omega
          rw [decide_eq_true e2, decide_eq_true e3]
          by_cases h4 : c = 37
          · subst h4
            rfl
          · rw [decide_eq_true h4, decide_eq_false (by omega)]
            rfl
        · walk_at "d"
          refine fin _ ?_
          unfold okC
          rw [decide_eq_false (by have := of_decide_eq_false h3; omega : ¬ c < 127), Bool.and_false]
          rfl
      · walk_at "d"
        refine fin _ ?_
        unfold okC
        rw [decide_eq_false (by have := of_decide_eq_false h2; omega : ¬ 32 ≤ c)]
        rfl
    · have e : (s.map fun c => D.str [c]).filterMap (fun d => match d with | .str [c] => some (.bl (okC c)) | _ => none) = (s.map okC).map D.bl := by
        rw [List.filterMap_map, List.map_map, ← List.filterMap_eq_map]
        rfl
      rw [e]
      walk_at "d"
      refine c_all isL_lst ?_
      walk_at "d"
      have e2 : ((s.map okC).all id) = s.all okC := by rw [List.all_map]; rfl
      rw [e2]
      refine ⟨fun h2 => ?_, fun h2 => ?_⟩
      · walk_at "d"
        refine q2 ?_
        unfold okT
        rw [Bool.not_eq_true'] at h2
        rw [h2, Bool.and_false]
      · walk_at "d"
        refine q1 ?_
        unfold okT
        rw [Bool.not_eq_false'] at h2
        rw [h2, decide_eq_true h1]
        rfl
theorem okC_asc {c : Nat} (h : okC c = true) : c < 128 := by
  unfold okC at h
  simp only [Bool.and_eq_true, decide_eq_true_eq] at h
  omega
theorem okT_asc {m : Nat} {s : List Nat} (h : okT m s = true) : asc s = true := by
  unfold okT at h
  rw [Bool.and_eq_true] at h
  unfold asc
  rw [List.all_eq_true] at h ⊢
  intro c hc
  exact decide_eq_true (okC_asc (h.2 c hc))
theorem okT_len {m : Nat} {s : List Nat} (h : okT m s = true) : s.length ≤ m := by
  unfold okT at h
  rw [Bool.and_eq_true] at h
  exact of_decide_eq_true h.1
theorem spl_len : ∀ (k : Nat) (acc l : List Nat), ((TL.spl [32] k acc l).map List.length).sum ≤ acc.length + l.length ∧ (TL.spl [32] k acc l).length ≤ l.length + 1
  | k, acc, [] => by rw [TL.spl_nil]; simp
  | k + 1, acc, c :: r => by
    have ih := spl_len k acc r
    have e : TL.spl [32] (k + 1) acc (c :: r) = TL.spl [32] k acc r := rfl
    rw [e, List.length_cons]
    omega
  | 0, acc, c :: r => by
    cases h : TL.pre [32] (c :: r) with
    | true =>
      have ih := spl_len 0 [] r
      have e : TL.spl [32] 0 acc (c :: r) = acc :: TL.spl [32] 0 [] r := TL.spl_hit (acc := acc) h
      rw [e]
      rw [List.map_cons, List.sum_cons, List.length_cons, List.length_cons]
      simp only [List.length_nil] at ih
      omega
    | false =>
      have ih := spl_len 0 (acc ++ [c]) r
      have e := TL.spl_miss (acc := acc) h
      rw [e, List.length_cons]
      rw [List.length_append] at ih
      simp only [List.length_cons, List.length_nil] at ih
      omega
theorem filter_lens (p : List Nat → Bool) : ∀ ws : List (List Nat), ((ws.filter p).map List.length).sum ≤ (ws.map List.length).sum ∧ (ws.filter p).length ≤ ws.length
  | [] => by simp
  | w :: ws => by
    have ih := filter_lens p ws
    rw [List.filter_cons]
    split
    · rw [List.map_cons, List.map_cons, List.sum_cons, List.sum_cons, List.length_cons, List.length_cons]
      omega
    · rw [List.map_cons, List.sum_cons, List.length_cons]
      omega
theorem filterMap_str (p : List Nat → Bool) : ∀ ws : List (List Nat), (ws.map D.str).filterMap (fun d => match d with | .str w => if p w = true then some (D.str w) else none | _ => none) = (ws.filter p).map D.str
  | [] => rfl
  | w :: ws => by
    rw [List.map_cons, List.filter_cons]
    by_cases h : p w = true
    · rw [if_pos h, List.map_cons, ← filterMap_str p ws, List.filterMap_cons]
      simp only [h, if_true]
    · rw [if_neg h, ← filterMap_str p ws, List.filterMap_cons]
      simp only [h, if_false]
      simp [h]
theorem lo1_len (s : List Nat) : (s.map lo1).length = s.length := List.length_map _
theorem d_folded {g : G} : Keeps 1 nm_folded (t_folded g) (ds_folded g) := by
  rintro W xs M Q E - ⟨s, rfl, hl, q1, q2⟩
  show lS W (t_folded g W) [some (.str s), none] M _ _
  unfold t_folded
  walk_at "d"
  refine ⟨s, 20, rfl, hl, fun h => ?_, fun h => q2 h⟩
  walk_at "d"
  refine l_lcP (wip_name (by decide)) ?_
  walk_at "d"
  refine m_lower (okT_asc h) (by omega) ?_
  walk_at "d"
  refine m_split (by decide) (by decide) (by rw [lo1_len]; omega) ?_
  have hs := spl_len 0 [] (s.map lo1)
  have hs2 := filter_lens (fun w => decide (w ≠ [])) (words (s.map lo1))
  rw [lo1_len] at hs
  simp only [List.length_nil] at hs
  refine ⟨_, isL_lst, fun d => match d with | .str w => if decide (w ≠ []) = true then some (D.str w) else none | _ => none, by rw [List.length_map]; omega, fun _ _ => isL_lst, ?_, ?_⟩
  · intro d hd M' _
    obtain ⟨w, hw, rfl⟩ := List.mem_map.mp hd
    walk_at "d"
    refine ⟨fun h2 => ?_, fun h2 => ⟨rfl, ?_⟩⟩
    · walk_at "d"
      have h3 : w ≠ [] := fun z => by
        rw [z] at h2
        cases h2
      simp [h3]
    · have h3 : w = [] := by simpa using h2
      simp [h3]
  · rw [filterMap_str]
    walk_at "d"
    have hs3 : words (s.map lo1) = TL.spl [32] 0 [] (s.map lo1) := rfl
    rw [hs3] at hs2
    refine m_join (.inl isL_lst) ?_ ?_
    · show (List.map List.length ((words (s.map lo1)).filter fun w => decide (w ≠ []))).sum + _ ≤ _
      rw [hs3]
      simp only [List.length_cons, List.length_nil]
      omega
    · exact q1 h
theorem fold_len {s : List Nat} : (fold s).length ≤ 2 * s.length + 1 := by
  have hs := spl_len 0 [] (s.map lo1)
  have hs2 := filter_lens (fun w => decide (w ≠ [])) (words (s.map lo1))
  rw [lo1_len] at hs
  simp only [List.length_nil] at hs
  have hj : ∀ ws : List (List Nat), (TL.joinL [32] ws).length ≤ (ws.map List.length).sum + ws.length := by
    intro ws
    induction ws with
    | nil => simp [TL.joinL]
    | cons w ws ih =>
      cases ws with
      | nil => simp [TL.joinL]
      | cons v vs =>
        have e : TL.joinL [32] (w :: v :: vs) = w ++ ([32] ++ TL.joinL [32] (v :: vs)) := by
          first | rfl | (unfold TL.joinL; simp)
        rw [e, List.length_append, List.length_append, List.map_cons, List.sum_cons, List.length_cons (a := w)]
        simp only [List.length_cons, List.length_nil] at ih ⊢
        omega
  have h3 := hj ((words (s.map lo1)).filter fun w => decide (w ≠ []))
  have hs3 : words (s.map lo1) = TL.spl [32] 0 [] (s.map lo1) := rfl
  unfold fold
  rw [hs3] at hs2 h3 ⊢
  omega
theorem d_rank {g : G} : Keeps 2 nm_rank (t_rank g) (ds_rank g) := by
  rintro W xs M Q E - ⟨row, query, rfl, hl, hl2, q1, q2⟩
  show lS W (t_rank g W) [some (.str row), some (.str query), none, none] M _ _
  unfold t_rank
  walk_at "d"
  refine ⟨query, 12, rfl, hl2, fun h => ?_, fun h => q2 (by rw [h]; rfl)⟩
  walk_at "d"
  refine ⟨hl, fun h2 => ?_, fun h2 => q2 (by rw [h2, Bool.and_false])⟩
  walk_at "d"
  have h3 : okT 20 query = true := by
    unfold okT at h ⊢
    rw [Bool.and_eq_true] at h ⊢
    exact ⟨decide_eq_true (by have := of_decide_eq_true h.1; omega), h.2⟩
  refine ⟨hl2, fun _ => ?_, fun z => absurd z (by rw [h3]; exact Bool.noConfusion)⟩
  have q := q1 (by rw [h, h2]; rfl)
  unfold rankP rankF at q
  have hlen : (fold query).length ≤ 25 := by
    have := fold_len (s := query)
    have := okT_len h
    omega
  walk_at "d"
  refine ⟨fun h4 => ?_, fun h4 => ?_⟩
  · rw [if_pos (of_decide_eq_true h4)] at q
    walk_at "d"
    exact q
  rw [if_neg (of_decide_eq_false h4)] at q
  walk_at "d"
  refine ⟨fun h5 => ?_, fun h5 => ?_⟩
  · rw [if_pos h5] at q
    walk_at "d"
    exact q
  rw [if_neg (by rw [h5]; exact Bool.false_ne_true)] at q
  walk_at "d"
  refine r_addS (by simp only [List.length_cons, List.length_nil]; omega) ?_
  walk_at "d"
  have e6 : [32] ++ fold query = 32 :: fold query := rfl
  rw [e6]
  refine ⟨fun h6 => ?_, fun h6 => ?_⟩
  · rw [if_pos h6] at q
    walk_at "d"
    exact q
  rw [if_neg (by rw [h6]; exact Bool.false_ne_true)] at q
  walk_at "d"
  refine ⟨fun h7 => ?_, fun h7 => ?_⟩
  · rw [if_pos h7] at q
    walk_at "d"
    exact q
  · rw [if_neg (by rw [h7]; exact Bool.false_ne_true)] at q
    walk_at "d"
    exact q

/-! ### the laws' helpers: draws -/
def ds__law_cell (g : G) : DSp := fun xs M Q _ => ∃ (ns : List Int) (k : Int), xs = [scr g.K ns, .int k] ∧ 0 ≤ k ∧ ∀ n, Q (.int n) M
abbrev sp__law_cell (g : G) : Sp := lift 2 (ds__law_cell g)
def ds__law_mix (g : G) : DSp := fun xs M Q _ => ∃ (ns : List Int) (k : Int), xs = [scr g.K ns, .int k] ∧ 0 ≤ k ∧ k ≤ 1000000 ∧ ∀ n, 0 ≤ n → n < 4294967231 → Q (.int n) M
abbrev sp__law_mix (g : G) : Sp := lift 2 (ds__law_mix g)
/-- the town's list, so long at most -/
def Twn (M : Mh) (t : Addr) (n : Nat) : Prop := ∃ zs, M t = some (.lst zs) ∧ zs.length ≤ n
/-- only the town changed -/
def Tw (M : Mh) (t : Addr) (n : Nat) (M' : Mh) : Prop := (∃ zs, M' = upM M t (.lst zs) ∧ zs.length ≤ n) ∧ ∃ zs, M t = some (.lst zs)
theorem Tw.twn {M M' : Mh} {t : Addr} {n : Nat} (h : Tw M t n M') : Twn M' t n := by
  obtain ⟨⟨zs, rfl, hl⟩, _⟩ := h
  exact ⟨zs, upM_same, hl⟩
theorem Twn.mono {M : Mh} {t : Addr} {n m : Nat} (h : Twn M t n) (k : n ≤ m) : Twn M t m := by
  obtain ⟨zs, e, hl⟩ := h
  exact ⟨zs, e, Nat.le_trans hl k⟩
theorem Tw.ne {M M' : Mh} {t b : Addr} {n : Nat} (h : Tw M t n M') (k : b ≠ t) : M' b = M b := by
  obtain ⟨⟨zs, rfl, hl⟩, _⟩ := h
  exact upM_ne k
theorem Tw.trans {M M' M'' : Mh} {t : Addr} {n m : Nat} (h : Tw M t n M') (h2 : Tw M' t m M'') : Tw M t m M'' := by
  obtain ⟨⟨zs, rfl, hl⟩, q⟩ := h
  obtain ⟨⟨ys, rfl, hl2⟩, _⟩ := h2
  exact ⟨⟨ys, upM_upM, hl2⟩, q⟩
theorem Tw.mono {M M' : Mh} {t : Addr} {n m : Nat} (h : Tw M t n M') (k : n ≤ m) : Tw M t m M' := by
  obtain ⟨⟨zs, e, hl⟩, q⟩ := h
  exact ⟨⟨zs, e, Nat.le_trans hl k⟩, q⟩
theorem Tw.refl {M : Mh} {t : Addr} {n : Nat} (h : Twn M t n) : Tw M t n M := by
  obtain ⟨zs, e, hl⟩ := h
  exact ⟨⟨zs, (upM_id e).symm, hl⟩, zs, e⟩
theorem Tw.none {M M' : Mh} {t a : Addr} {n : Nat} (h : Tw M t n M') : (M' a = none) ↔ (M a = none) := by
  obtain ⟨⟨zs, rfl, hl⟩, ys, q⟩ := h
  by_cases e : a = t
  · subst e
    rw [upM_same, q]
    simp
  · rw [upM_ne e]
/-- a draw below m: any of them -/
def ds__law_draw (g : G) : DSp := fun xs M Q _ => ∃ (ns : List Int) (t : Addr) (m : Nat) (n : Nat), xs = [scr g.K ns, .ref t, .int (m : Int)] ∧ 0 < m ∧ n < 90000 ∧ Twn M t n ∧ ∀ (d : Nat) M', d < m → Tw M t (n + 1) M' → Q (.int (d : Int)) M'
abbrev sp__law_draw (g : G) : Sp := lift 3 (ds__law_draw g)
/-- a list or a tuple, other than the town's -/
def isSqN (M : Mh) (t : Addr) (x : D) (ds : List D) : Prop := x = .lst ds ∨ x = .tup ds ∨ ∃ a, a ≠ t ∧ x = .ref a ∧ M a = some (.lst ds)
theorem isSqN.sq {M : Mh} {t : Addr} {x : D} {ds : List D} (h : isSqN M t x ds) : isSq M x ds := by
  rcases h with rfl | rfl | ⟨a, _, rfl, m⟩
  · exact .inl isL_lst
  · exact .inr rfl
  · exact .inl (isL_ref m)
theorem isSqN.tw {M M' : Mh} {t : Addr} {n : Nat} {x : D} {ds : List D} (h : isSqN M t x ds) (w : Tw M t n M') : isSqN M' t x ds := by
  rcases h with rfl | rfl | ⟨a, na, rfl, m⟩
  · exact .inl rfl
  · exact .inr (.inl rfl)
  · exact .inr (.inr ⟨a, na, rfl, by rw [w.ne na]; exact m⟩)
def ds__law_pick (g : G) : DSp := fun xs M Q _ => ∃ (ns : List Int) (t : Addr) (x : D) (ds : List D) (n : Nat), xs = [scr g.K ns, .ref t, x] ∧ isSqN M t x ds ∧ ds ≠ [] ∧ n < 90000 ∧ Twn M t n ∧ ∀ d M', d ∈ ds → Tw M t (n + 1) M' → Q d M'
abbrev sp__law_pick (g : G) : Sp := lift 3 (ds__law_pick g)
abbrev nm__law_cell : List Str := ["_law_script", "_law_k"]
def t__law_cell (g : G) (W : WX) : TS := (tSeq (tIfS (tTruA g.K (tVar 0)) (tRet (tOp (rIx g.K) (tVar 0) (tOp (rModA) (tVar 1) (tCB (rLenA g.K) (tCons (tVar 0) tNil))))) tNext) (tRet (tC (.int 0))))
abbrev nm__law_mix : List Str := ["_law_script", "_law_k", "_law_number"]
def t__law_mix (g : G) (W : WX) : TS := (tSeq (tAsg (tOp (rModA) (tOp (rAddA g.K) (tCallS (sp__law_cell g) (WE W) (tCons (tVar 0) (tCons (tVar 1) tNil))) (tOp (rMulA) (tC (.int 104729)) (tOp (rAddA g.K) (tVar 1) (tC (.int 1))))) (tC (.int 4294967291))) (gName 2)) (tSeq (tAsg (tOp (rModA) (tOp (rPowA) (tVar 2) (tC (.int 5))) (tC (.int 4294967279))) (gName 2)) (tRet (tOp (rModA) (tOp (rAddA g.K) (tOp (rMulA) (tOp (rFdivA) (tVar 2) (tC (.int 64))) (tC (.int 69621))) (tVar 2)) (tC (.int 4294967231))))))
abbrev nm__law_draw : List Str := ["_law_script", "_law_town", "_law_many"]
def t__law_draw (g : G) (W : WX) : TS := (tSeq (tDrop (tBM g.K "list" (rAppend) (tVar 1) (tCons (tC (.int 0)) tNil))) (tRet (tOp (rModA) (tOp (rFdivA) (tCallS (sp__law_mix g) (WE W) (tCons (tVar 0) (tCons (tCB (rLenA g.K) (tCons (tVar 1) tNil)) tNil))) (tC (.int 8))) (tVar 2))))
abbrev nm__law_pick : List Str := ["_law_script", "_law_town", "_law_some"]
def t__law_pick (g : G) (W : WX) : TS := (tRet (tOp (rIx g.K) (tVar 2) (tCallS (sp__law_draw g) (WE W) (tCons (tVar 0) (tCons (tVar 1) (tCons (tCB (rLenA g.K) (tCons (tVar 2) tNil)) tNil))))))

theorem d__law_cell {g : G} : Keeps 2 nm__law_cell (t__law_cell g) (ds__law_cell g) := by
  rintro W xs M Q E - ⟨ns, k, rfl, hk, q⟩
  show lS W (t__law_cell g W) [some (scr g.K ns), some (.int k)] M _ _
  unfold t__law_cell
  walk_at "d"
  refine ⟨_, tru_scr, fun h => ?_, fun h => ?_⟩
  · walk_at "d"
    refine c_lenC ?_
    have hlen : 0 < ns.length := by
      cases ns with
      | nil => cases h
      | cons x r => exact Nat.succ_pos _
    refine r_mod (by omega) ?_
    have h0 : 0 ≤ k % (ns.length : Int) := Int.emod_nonneg _ (by omega)
    have h1 : k % (ns.length : Int) < ns.length := Int.emod_lt_of_pos _ (by omega)
    obtain ⟨j, hj⟩ : ∃ j : Nat, k % (ns.length : Int) = (j : Int) := ⟨(k % (ns.length : Int)).toNat, by omega⟩
    rw [hj]
    have hlt : j < ns.length := by omega
    exact r_ixC (at_nat (List.getElem?_eq_getElem hlt)) (q _)
  · walk_at "d"
    exact q _
theorem d__law_mix {g : G} : Keeps 2 nm__law_mix (t__law_mix g) (ds__law_mix g) := by
  rintro W xs M Q E - ⟨ns, k, rfl, hk, hk2, q⟩
  show lS W (t__law_mix g W) [some (scr g.K ns), some (.int k), none] M _ _
  unfold t__law_mix
  walk_at "d"
  refine ⟨ns, k, rfl, hk, fun n => ?_⟩
  walk_at "d"
  refine r_mulI (.inl ⟨by omega, by omega⟩) ?_
  walk_at "d"
  refine r_mod (by omega) ?_
  have b1 := Int.emod_nonneg (n + 104729 * (k + 1)) (show (4294967291 : Int) ≠ 0 by omega)
  have b2 := Int.emod_lt_of_pos (n + 104729 * (k + 1)) (show (0 : Int) < 4294967291 by omega)
  generalize (n + 104729 * (k + 1)) % 4294967291 = c at b1 b2
  walk_at "d"
  refine r_pow ⟨by omega, by omega, by omega⟩ ?_
  walk_at "d"
  refine r_mod (by omega) ?_
  have b3 := Int.emod_nonneg (c ^ (5 : Int).toNat) (show (4294967279 : Int) ≠ 0 by omega)
  have b4 := Int.emod_lt_of_pos (c ^ (5 : Int).toNat) (show (0 : Int) < 4294967279 by omega)
  generalize (c ^ (5 : Int).toNat) % 4294967279 = d at b3 b4
  walk_at "d"
  refine r_fdiv ⟨by omega, by omega⟩ ?_
  walk_at "d"
  refine r_mulI (.inr ⟨by omega, by omega⟩) ?_
  walk_at "d"
  refine r_mod (by omega) ?_
  exact q _ (Int.emod_nonneg _ (by omega)) (Int.emod_lt_of_pos _ (by omega))
theorem d__law_draw {g : G} : Keeps 3 nm__law_draw (t__law_draw g) (ds__law_draw g) := by
  rintro W xs M Q E - ⟨ns, t, m, n, rfl, hm, hn, ⟨zs, ht, hz⟩, q⟩
  show lS W (t__law_draw g W) [some (scr g.K ns), some (.ref t), some (.int m)] M _ _
  unfold t__law_draw
  walk_at "d"
  refine l_bmL ?_
  walk_at "d"
  refine ⟨⟨zs, isL_ref ht⟩, ?_⟩
  walk_at "d"
  refine m_append ht (by omega) ?_
  walk_at "d"
  refine c_len (.inl (isL_ref upM_same)) ?_
  walk_at "d"
  refine ⟨ns, _, rfl, by omega, ?_, fun k h0 h1 => ?_⟩
  · rw [List.length_append]
    simp only [List.length_cons, List.length_nil]
    omega
  walk_at "d"
  refine r_fdiv ⟨by omega, by omega⟩ ?_
  walk_at "d"
  refine r_mod (by omega) ?_
  have b1 := Int.emod_nonneg (k / 8) (show (m : Int) ≠ 0 by omega)
  have b2 := Int.emod_lt_of_pos (k / 8) (show (0 : Int) < m by omega)
  obtain ⟨j, hj⟩ : ∃ j : Nat, (k / 8) % (m : Int) = (j : Int) := ⟨((k / 8) % (m : Int)).toNat, by omega⟩
  rw [hj]
  refine q j _ (by omega) ⟨⟨_, rfl, ?_⟩, zs, ht⟩
  rw [List.length_append]
  simp only [List.length_cons, List.length_nil]
  omega
theorem d__law_pick {g : G} : Keeps 3 nm__law_pick (t__law_pick g) (ds__law_pick g) := by
  rintro W xs M Q E - ⟨ns, t, x, ds, n, rfl, hx, hd, hn, ht, q⟩
  show lS W (t__law_pick g W) [some (scr g.K ns), some (.ref t), some x] M _ _
  unfold t__law_pick
  walk_at "d"
  refine c_len hx.sq ?_
  walk_at "d"
  have hlen : 0 < ds.length := List.length_pos_iff.mpr hd
  refine ⟨ns, t, ds.length, n, rfl, hlen, hn, ht, fun d M' hdm w => ?_⟩
  exact r_ix (hx.tw w).sq (at_nat (List.getElem?_eq_getElem hdm)) (q _ _ (List.getElem_mem hdm) w)

/-! ### refusals -/
inductive Xw where
  | text | number | ask
def Xw.cls (g : G) : Xw → Addr
  | .text => g.cT
  | .number => g.cN
  | .ask => g.cA
def Xw.sign : Xw → List Nat
  | .text => [116, 101, 120, 116]
  | .number => [110, 117, 109, 98, 101, 114]
  | .ask => [97, 115, 107]
/-- ("refused", ..) -/
def refD (w : Xw) : D := .tup [.str [114, 101, 102, 117, 115, 101, 100], .str w.sign]
structure XF (g : G) : Prop where
  eT : ExcC g.K g.cT
  eN : ExcC g.K g.cN
  eA : ExcC g.K g.cA
  mT : PySem.W.exmOne g.K (.ref g.cT) (.ref g.cE) = some true
  mN : PySem.W.exmOne g.K (.ref g.cN) (.ref g.cE) = some true
  mA : PySem.W.exmOne g.K (.ref g.cA) (.ref g.cE) = some true
  kTT : PySem.W.kitOne g.K (.ref g.cT) (.ref g.cT) = some true
  kTN : PySem.W.kitOne g.K (.ref g.cT) (.ref g.cN) = some false
  kTA : PySem.W.kitOne g.K (.ref g.cT) (.ref g.cA) = some false
  kNT : PySem.W.kitOne g.K (.ref g.cN) (.ref g.cT) = some false
  kNN : PySem.W.kitOne g.K (.ref g.cN) (.ref g.cN) = some true
  kNA : PySem.W.kitOne g.K (.ref g.cN) (.ref g.cA) = some false
  kAT : PySem.W.kitOne g.K (.ref g.cA) (.ref g.cT) = some false
  kAN : PySem.W.kitOne g.K (.ref g.cA) (.ref g.cN) = some false
  kAA : PySem.W.kitOne g.K (.ref g.cA) (.ref g.cA) = some true
  vT : PySem.W.kitOne g.K (.ref g.cT) (.type "ValueError") = some true
  vN : PySem.W.kitOne g.K (.ref g.cN) (.type "ValueError") = some true
  vA : PySem.W.kitOne g.K (.ref g.cA) (.type "ValueError") = some true
theorem XF.m {g : G} (x : XF g) : ∀ w : Xw, PySem.W.exmOne g.K (.ref (w.cls g)) (.ref g.cE) = some true
  | .text => x.mT
  | .number => x.mN
  | .ask => x.mA
def ds__law_refusal (g : G) : DSp := fun xs M Q _ => (xs = [.non] ∧ Q (.tup [.str [111, 107]]) M) ∨ ∃ w : Xw, xs = [.exc (w.cls g)] ∧ Q (refD w) M
abbrev sp__law_refusal (g : G) : Sp := lift 1 (ds__law_refusal g)
/-! ### the laws' own folding and ranks -/
def lstep (acc : List Nat) (c : Nat) : List Nat :=
  if c ≠ 32 then acc ++ [lo1 c] else if acc ≠ [] ∧ acc.getLast? ≠ some 32 then acc ++ [32] else acc
def lfin (acc : List Nat) : List Nat := if acc.getLast? = some 32 then acc.dropLast else acc
def lfold (s : List Nat) : List Nat := lfin (s.foldl lstep [])
def ds__law_folded (g : G) : DSp := fun xs M Q _ => ∃ s : List Nat, xs = [.str s] ∧ s.length ≤ 1000 ∧ asc s = true ∧ Q (.str (lfold s)) M
abbrev sp__law_folded (g : G) : Sp := lift 1 (ds__law_folded g)
def spots (m w : List Nat) : List Nat := (List.range (m.length + 1)).filter fun k => decide ((m.drop k).take w.length = w)
def lrankF (m w : List Nat) : Option Nat :=
  match spots m w with
  | [] => none
  | 0 :: _ => if m.length = w.length then some 0 else some 1
  | i :: r => if ((i :: r).filter fun k => decide (m[k - 1]? = some 32)) = [] then some 3 else some 2
def ds__law_rank (g : G) : DSp := fun xs M Q _ => ∃ row query : List Nat, xs = [.str row, .str query] ∧ row.length ≤ 1000 ∧ query.length ≤ 1000 ∧ asc row = true ∧ asc query = true ∧ Q (optD (lrankF (lfold row) (lfold query))) M
abbrev sp__law_rank (g : G) : Sp := lift 2 (ds__law_rank g)
theorem lstep_len (acc : List Nat) (c : Nat) : (lstep acc c).length ≤ acc.length + 1 := by
  unfold lstep
  split
  · simp
  · split
    · simp
    · omega
theorem foldl_lstep_len : ∀ (s acc : List Nat), (s.foldl lstep acc).length ≤ acc.length + s.length
  | [], acc => by simp
  | c :: s, acc => by
    have h := foldl_lstep_len s (lstep acc c)
    have h2 := lstep_len acc c
    rw [List.foldl_cons, List.length_cons]
    omega
theorem lfold_len (s : List Nat) : (lfold s).length ≤ s.length := by
  unfold lfold lfin
  have h := foldl_lstep_len s []
  simp only [List.length_nil] at h
  split
  · rw [List.length_dropLast]
    omega
  · omega
abbrev nm__law_refusal : List Str := ["_law_held", "_law_kinds"]
def t__law_refusal (g : G) (W : WX) : TS := (tSeq (tIfS (tTest (tOp (rIsNo) (tVar 0) (tC .non))) (tRet (tTup (tCons (tC (.str (S [111, 107]))) tNil))) tNext) (tSeq (tAsg (tLst (tCons (tCB (rIsX g.K) (tCons (tVar 0) (tCons (tC (.ref g.cT)) tNil))) (tCons (tCB (rIsX g.K) (tCons (tVar 0) (tCons (tC (.ref g.cN)) tNil))) (tCons (tCB (rIsX g.K) (tCons (tVar 0) (tCons (tC (.ref g.cA)) tNil))) tNil)))) (gName 1)) (tSeq (tIfS (tOr (tTest (tOp (rNeA g.K) (tBM g.K "list" (rCntF g.K) (tVar 1) (tCons (tC (.bl true)) tNil)) (tC (.int 1)))) (tNot (tB (tCB (rIsX g.K) (tCons (tVar 0) (tCons (tC (.ty "ValueError")) tNil)))))) (tRet (tTup (tCons (tC (.str (S [119, 114, 111, 110, 103]))) tNil))) tNext) (tRet (tTup (tCons (tC (.str (S [114, 101, 102, 117, 115, 101, 100]))) (tCons (tOp (rIx g.K) (tLst (tCons (tC (.str (S [116, 101, 120, 116]))) (tCons (tC (.str (S [110, 117, 109, 98, 101, 114]))) (tCons (tC (.str (S [97, 115, 107]))) tNil)))) (tBM g.K "list" (rIndex g.K) (tVar 1) (tCons (tC (.bl true)) tNil))) tNil)))))))
abbrev nm__law_folded : List Str := ["_law_text", "_law_found", "_law_sign"]
def t__law_folded (g : G) (W : WX) : TS := (tSeq (tAsg (tC (.str (S []))) (gName 1)) (tSeq (tFor (iStr (tVar 0)) (gName 2) (tIfS (tTest (tOp (rNeA g.K) (tVar 2) (tC (.str (S [32]))))) (tAsg (tOp (rAddA g.K) (tVar 1) (tBM0 g.K "str" (rLower) (tVar 2))) (gName 1)) (tIfS (tAnd (tTest (tOp (rNeA g.K) (tVar 1) (tC (.str (S []))))) (tTest (tOp (rNeA g.K) (tOp (rIx g.K) (tVar 1) (tUn rNegA (tC (.int 1)))) (tC (.str (S [32])))))) (tAsg (tOp (rAddA g.K) (tVar 1) (tC (.str (S [32])))) (gName 1)) tNext))) (tRet (tIf (tTest (tOp (rEqA g.K) (tSl (rSlA g.K) (tVar 1) (tPart (tUn rNegA (tC (.int 1)))) tNoPart) (tC (.str (S [32]))))) (tSl (rSlA g.K) (tVar 1) tNoPart (tPart (tUn rNegA (tC (.int 1))))) (tVar 1)))))

theorem xw_cls {g : G} (hx : XF g) (w : Xw) : ExcC g.K (w.cls g) := by
  cases w
  · exact hx.eT
  · exact hx.eN
  · exact hx.eA
def Xw.at : Xw → Nat
  | .text => 0
  | .number => 1
  | .ask => 2
theorem d__law_refusal {g : G} (hx : XF g) : Keeps 1 nm__law_refusal (t__law_refusal g) (ds__law_refusal g) := by
  rintro W xs M Q E - h
  rcases h with ⟨rfl, q⟩ | ⟨w, rfl, q⟩
  · show lS W (t__law_refusal g W) [some .non, none] M _ _
    unfold t__law_refusal
    walk_at "d"
    exact br_t (by walk_at "d"; exact q)
  · show lS W (t__law_refusal g W) [some (.exc (w.cls g)), none] M _ _
    unfold t__law_refusal
    walk_at "d"
    refine br_f ?_
    walk_at "d"
    refine l_lst ?_
    walk_at "d"
    have k1 : PySem.W.kitOne g.K (.ref (w.cls g)) (.ref g.cT) = some (decide (w.at = 0)) := by
      cases w
      · exact hx.kTT
      · exact hx.kNT
      · exact hx.kAT
    have k2 : PySem.W.kitOne g.K (.ref (w.cls g)) (.ref g.cN) = some (decide (w.at = 1)) := by
      cases w
      · exact hx.kTN
      · exact hx.kNN
      · exact hx.kAN
    have k3 : PySem.W.kitOne g.K (.ref (w.cls g)) (.ref g.cA) = some (decide (w.at = 2)) := by
      cases w
      · exact hx.kTA
      · exact hx.kNA
      · exact hx.kAA
    have k4 : PySem.W.kitOne g.K (.ref (w.cls g)) (.type "ValueError") = some true := by
      cases w
      · exact hx.vT
      · exact hx.vN
      · exact hx.vA
    refine c_isX (xw_cls hx w) k1 ?_
    walk_at "d"
    refine c_isX (xw_cls hx w) k2 ?_
    walk_at "d"
    refine c_isX (xw_cls hx w) k3 ?_
    walk_at "d"
    refine l_bmL ?_
    walk_at "d"
    refine ⟨⟨_, isL_lst⟩, ?_⟩
    walk_at "d"
    refine m_count isL_lst rfl rfl ?_
    have ec : (List.countP (fun e => eqF e (.bl true)) [D.bl (decide (w.at = 0)), .bl (decide (w.at = 1)), .bl (decide (w.at = 2))]) = 1 := by cases w <;> rfl
    rw [ec]
    walk_at "d"
    refine br_f ?_
    walk_at "d"
    refine c_isXt (xw_cls hx w) k4 ?_
    walk_at "d"
    refine br_f ?_
    walk_at "d"
    refine l_lst ?_
    walk_at "d"
    refine l_bmL ?_
    walk_at "d"
    refine ⟨⟨_, isL_lst⟩, ?_⟩
    walk_at "d"
    refine m_index (j := w.at) (e := .bl true) isL_lst rfl rfl (by cases w <;> rfl) rfl (fun m e' hm he => ?_) ?_
    · cases w with
      | text => exact absurd hm (Nat.not_lt_zero _)
      | number =>
        have : m = 0 := by
          have : m < 1 := hm
          omega
        subst this
        cases he
        rfl
      | ask =>
        have : m = 0 ∨ m = 1 := by
          have : m < 2 := hm
          omega
        rcases this with rfl | rfl <;> (cases he; rfl)
    · refine r_ix (d := .str w.sign) (.inl isL_lst) (by cases w <;> rfl) ?_
      walk_at "d"
      exact q
theorem asc_one {c : Nat} {s : List Nat} (h : asc s = true) (hc : c ∈ s) : asc [c] = true := by
  unfold asc at h ⊢
  rw [List.all_eq_true] at h
  rw [List.all_cons, h c hc]
  rfl
theorem lstep_of (acc : List Nat) (c : Nat) : lstep acc c = if c ≠ 32 then acc ++ [lo1 c] else if acc ≠ [] ∧ acc.getLast? ≠ some 32 then acc ++ [32] else acc := rfl
theorem atI_neg1 {α : Type} {xs : List α} {x : α} (h : xs.getLast? = some x) : atI xs (-1) = some x := by
  have hne : xs ≠ [] := fun z => by
    rw [z] at h
    cases h
  have e : xs = xs.dropLast ++ [x] := by
    have h1 := List.getLast?_eq_getLast hne
    rw [h] at h1
    have h2 : xs.getLast hne = x := (Option.some.inj h1).symm
    rw [← h2]
    exact (List.dropLast_concat_getLast hne).symm
  rw [e]
  exact atI_last _ _
theorem last_cut {s : List Nat} : cutL s (some (-1)) none = match s.getLast? with | some c => [c] | none => [] := by
  rw [cut_last]
  cases h : s.getLast? with
  | none =>
    have : s = [] := List.getLast?_eq_none_iff.mp h
    subst this
    rfl
  | some c =>
    have hne : s ≠ [] := fun z => by
      rw [z] at h
      cases h
    have h1 := List.getLast?_eq_getLast hne
    rw [h] at h1
    have h2 : s.getLast hne = c := (Option.some.inj h1).symm
    show s.drop (s.length - 1) = [c]
    have e : s = s.dropLast ++ [c] := by
      rw [← h2]
      exact (List.dropLast_concat_getLast hne).symm
    have hlen : s.length - 1 = s.dropLast.length := (List.length_dropLast).symm
    rw [hlen]
    conv => lhs; rw [e]
    rw [List.dropLast_concat]
    exact List.drop_left
theorem d__law_folded {g : G} : Keeps 1 nm__law_folded (t__law_folded g) (ds__law_folded g) := by
  rintro W xs M Q E - ⟨s, rfl, hl, ha, q⟩
  show lS W (t__law_folded g W) [some (.str s), none, none] M _ _
  unfold t__law_folded
  walk_at "d"
  refine s_for ?_
  walk_at "d"
  refine ⟨fun i ρ M' => M' = M ∧ ∃ y, ρ = [some (.str s), some (.str ((s.take i).foldl lstep [])), y], ⟨rfl, none, rfl⟩, fun _ _ _ _ => trivial, ?_, ?_⟩
  · rintro i ρ' M' d hd ⟨rfl, y, rfl⟩
    rw [List.getElem?_map] at hd
    obtain ⟨c, hc, rfl⟩ := Option.map_eq_some_iff.mp hd
    have et : (s.take (i + 1)).foldl lstep [] = lstep ((s.take i).foldl lstep []) c := by
      rw [List.take_add_one, hc, List.foldl_append]
      rfl
    have hacc : ((s.take i).foldl lstep []).length ≤ 1000 := by
      have h1 := foldl_lstep_len (s.take i) []
      rw [List.length_take] at h1
      simp only [List.length_nil] at h1
      omega
    generalize (s.take i).foldl lstep [] = acc at et hacc
    rw [lstep_of] at et
    have hmem := List.mem_of_getElem? hc
    walk_at "d"
    refine ⟨fun h => ?_, fun h => ?_⟩
    · have hn : c ≠ 32 := fun z => by
        subst z
        simp at h
      rw [if_pos hn] at et
      walk_at "d"
      refine m_lower (asc_one ha hmem) (by simp) ?_
      refine r_addS (by simp only [List.map_cons, List.map_nil, List.length_cons, List.length_nil]; omega) ?_
      walk_at "d"
      rw [et]
      exact ⟨_, rfl⟩
    · have hn : c = 32 := by
        simp at h
        exact h
      rw [if_neg (fun z => z hn)] at et
      walk_at "d"
      refine ⟨fun h2 => ?_, fun h2 => ?_⟩
      · have hne : acc ≠ [] := by simpa using h2
        obtain ⟨x, hx⟩ : ∃ x, acc.getLast? = some x := ⟨acc.getLast hne, List.getLast?_eq_getLast hne⟩
        walk_at "d"
        refine r_ixS (by omega) (atI_neg1 hx) ?_
        walk_at "d"
        refine ⟨fun h3 => ?_, fun h3 => ?_⟩
        · have hx2 : x ≠ 32 := fun z => by
            subst z
            simp at h3
          rw [if_pos ⟨hne, by rw [hx]; exact fun z => hx2 (Option.some.inj z)⟩] at et
          walk_at "d"
          refine r_addS (by simp only [List.length_cons, List.length_nil]; omega) ?_
          walk_at "d"
          rw [et]
          exact ⟨_, rfl⟩
        · have hx2 : x = 32 := by
            simp at h3
            exact h3
          rw [if_neg (fun z => z.2 (by rw [hx, hx2]))] at et
          walk_at "d"
          rw [et]
          exact ⟨_, rfl⟩
      · have hne : acc = [] := by simpa using h2
        walk_at "d"
        rw [if_neg (fun z => z.1 hne)] at et
        rw [et]
        exact ⟨_, rfl⟩
  · rintro ρ' M' ⟨rfl, y, rfl⟩
    rw [List.length_map, List.take_length]
    have hq : lfin (s.foldl lstep []) = lfold s := rfl
    have hacc : (s.foldl lstep []).length ≤ 1000 := by
      have h1 := foldl_lstep_len s []
      simp only [List.length_nil] at h1
      omega
    rw [← hq] at q
    generalize s.foldl lstep [] = acc at q hacc
    unfold lfin at q
    walk_at "d"
    refine sl_S (by omega) ?_
    walk_at "d"
    rw [last_cut]
    refine ⟨fun h => ?_, fun h => ?_⟩
    · have h1 : acc.getLast? = some 32 := by
        cases e : acc.getLast? with
        | none =>
          rw [e] at h
          cases h
        | some c =>
          rw [e] at h
          simp at h
          rw [h]
      rw [if_pos h1] at q
      walk_at "d"
      refine sl_S (by omega) ?_
      rw [show (-(1 : Int)) = -1 from rfl, cut_butlast]
      exact q
    · have h1 : acc.getLast? ≠ some 32 := fun z => by
        rw [z] at h
        simp at h
      rw [if_neg h1] at q
      walk_at "d"
      exact q

/-! ### the law's folding is the program's -/
theorem lo1_32 {c : Nat} : lo1 c = 32 ↔ c = 32 := by
  unfold lo1
  constructor
  · intro h
    split at h <;> omega
  · intro h
    subst h
    rfl
/-- words that are whole, then a part of a word -/
def jn (ws : List (List Nat)) (u : List Nat) : List Nat := (ws.map fun w => w ++ [32]).flatten ++ u
theorem jn_snoc (ws : List (List Nat)) (u v : List Nat) : jn (ws ++ [u]) v = jn ws u ++ [32] ++ v := by
  unfold jn
  rw [List.map_append, List.flatten_append]
  simp
theorem jn_app (ws : List (List Nat)) (u v : List Nat) : jn ws (u ++ v) = jn ws u ++ v := by
  unfold jn
  rw [List.append_assoc]
theorem join_jn : ∀ (ws : List (List Nat)) (u : List Nat), TL.joinL [32] (ws ++ [u]) = jn ws u
  | [], u => by simp [TL.joinL, jn]
  | [w], u => by simp [TL.joinL, jn]
  | w :: v :: ws, u => by
    have ih := join_jn (v :: ws) u
    have e : TL.joinL [32] (w :: v :: ws ++ [u]) = w ++ ([32] ++ TL.joinL [32] (v :: ws ++ [u])) := rfl
    rw [e, ih]
    unfold jn
    simp
def clean (u : List Nat) : Prop := ∀ c ∈ u, c ≠ 32
theorem jn_last {ws : List (List Nat)} {u : List Nat} (h : u ≠ []) (hc : clean u) : jn ws u ≠ [] ∧ (jn ws u).getLast? ≠ some 32 := by
  have e : u = u.dropLast ++ [u.getLast h] := (List.dropLast_concat_getLast h).symm
  unfold jn
  rw [e, ← List.append_assoc]
  constructor
  · simp
  · rw [List.getLast?_concat]
    exact fun z => hc _ (List.getLast_mem h) (Option.some.inj z)
theorem jn_end {ws : List (List Nat)} (h : ws ≠ []) : ∃ ws' w, ws = ws' ++ [w] ∧ jn ws [] = jn ws' w ++ [32] := by
  refine ⟨ws.dropLast, ws.getLast h, (List.dropLast_concat_getLast h).symm, ?_⟩
  conv => lhs; rw [← List.dropLast_concat_getLast h]
  rw [jn_snoc, List.append_nil]
abbrev ne' (w : List Nat) : Bool := decide (w ≠ [])
theorem lstep_word {acc : List Nat} {c : Nat} (h : c ≠ 32) : lstep acc c = acc ++ [lo1 c] := if_pos h
theorem lfold_go : ∀ (s : List Nat) (ws : List (List Nat)) (u : List Nat), clean u → (∀ w ∈ ws, w ≠ []) →
    lfin (s.foldl lstep (jn ws u)) = TL.joinL [32] (ws ++ (TL.spl [32] 0 u (s.map lo1)).filter ne')
  | [], ws, u, hu, hw => by
    rw [List.foldl_nil, List.map_nil, TL.spl_nil]
    by_cases h : u = []
    · subst h
      rw [show List.filter ne' [[]] = [] from rfl, List.append_nil]
      by_cases hn : ws = []
      · subst hn
        rfl
      · obtain ⟨ws', w, e, e2⟩ := jn_end hn
        rw [e2, e, join_jn]
        unfold lfin
        rw [List.getLast?_concat, if_pos rfl, List.dropLast_concat]
    · have e : List.filter ne' [u] = [u] := by simp [ne', h]
      rw [e, join_jn]
      unfold lfin
      rw [if_neg (jn_last h hu).2]
  | c :: s, ws, u, hu, hw => by
    rw [List.foldl_cons, List.map_cons]
    by_cases hc : c = 32
    · subst hc
      have hp : TL.pre [32] (lo1 32 :: s.map lo1) = true := rfl
      have e : TL.spl [32] 0 u (lo1 32 :: s.map lo1) = u :: TL.spl [32] 0 [] (s.map lo1) := TL.spl_hit hp
      rw [e, List.filter_cons]
      by_cases h : u = []
      · subst h
        have e1 : lstep (jn ws []) 32 = jn ws [] := by
          unfold lstep
          rw [if_neg (fun z => z rfl)]
          by_cases hn : ws = []
          · subst hn
            rfl
          · obtain ⟨ws', w, e, e2⟩ := jn_end hn
            rw [if_neg (fun z => z.2 (by rw [e2, List.getLast?_concat]))]
        rw [e1, lfold_go s ws [] (fun c hc => nomatch hc) hw]
        rfl
      · have e1 : lstep (jn ws u) 32 = jn (ws ++ [u]) [] := by
          unfold lstep
          rw [if_neg (fun z => z rfl), if_pos (jn_last h hu), jn_snoc, List.append_nil]
        rw [e1, lfold_go s (ws ++ [u]) [] (fun c hc => nomatch hc) (fun w hm => by
          rcases List.mem_append.mp hm with q | q
          · exact hw w q
          · rw [List.mem_singleton.mp q]
            exact h)]
        have h2 : ne' u = true := decide_eq_true h
        rw [if_pos h2, List.append_assoc]
        rfl
    · have hl : lo1 c ≠ 32 := fun z => hc (lo1_32.mp z)
      have hp : TL.pre [32] (lo1 c :: s.map lo1) = false := TL.pre_of_head _ _ hl
      have e : TL.spl [32] 0 u (lo1 c :: s.map lo1) = TL.spl [32] 0 (u ++ [lo1 c]) (s.map lo1) := TL.spl_miss hp
      rw [e, lstep_word hc, ← jn_app]
      exact lfold_go s ws (u ++ [lo1 c]) (fun x hx => by
        rcases List.mem_append.mp hx with q | q
        · exact hu x q
        · rw [List.mem_singleton.mp q]
          exact hl) hw
theorem lfold_fold (s : List Nat) : lfold s = fold s := by
  have h := lfold_go s [] [] (fun c hc => nomatch hc) (fun w hw => nomatch hw)
  exact h
theorem fold_len' (s : List Nat) : (fold s).length ≤ s.length := by
  rw [← lfold_fold]
  exact lfold_len s
/-! ### the law's ranks are the program's -/
theorem isAt_dec {m w : List Nat} {k : Nat} (hk : k ≤ m.length) : isAt w m k = decide ((m.drop k).take w.length = w) := by
  unfold isAt
  by_cases h : (m.drop k).take w.length = w
  · rw [decide_eq_true h]
    have e := congrArg List.length h
    rw [List.length_take, List.length_drop] at e
    rw [decide_eq_true (by omega), h]
    simp
  · rw [decide_eq_false h]
    have : ((m.drop k).take w.length == w) = false := by simpa using h
    rw [this, Bool.and_false]
theorem spots_isAt {m w : List Nat} : spots m w = (List.range (m.length + 1)).filter (isAt w m) := by
  unfold spots
  refine List.filter_congr fun k hk => ?_
  have := List.mem_range.mp hk
  rw [isAt_dec (by omega)]
theorem find_filter {p : Nat → Bool} : ∀ l : List Nat, l.find? p = (l.filter p).head?
  | [] => rfl
  | a :: l => by
    rw [List.find?_cons, List.filter_cons]
    cases h : p a with
    | true => simp
    | false =>
      rw [find_filter l]
      rfl
theorem findAt_spots {m w : List Nat} : findAt w m = (spots m w).head? := by
  rw [spots_isAt]
  exact find_filter _
theorem mem_spots {m w : List Nat} {k : Nat} : k ∈ spots m w ↔ k ≤ m.length ∧ isAt w m k = true := by
  rw [spots_isAt, List.mem_filter, List.mem_range]
  constructor
  · rintro ⟨h1, h2⟩
    exact ⟨by omega, h2⟩
  · rintro ⟨h1, h2⟩
    exact ⟨by omega, h2⟩
theorem isAt_le {m w : List Nat} {k : Nat} (h : isAt w m k = true) : k + w.length ≤ m.length := by
  unfold isAt at h
  rw [Bool.and_eq_true] at h
  exact of_decide_eq_true h.1
theorem hasT_iff {m w : List Nat} : hasT w m = true ↔ ∃ k, isAt w m k = true := by
  unfold hasT findAt
  rw [List.find?_isSome]
  constructor
  · rintro ⟨k, _, h⟩
    exact ⟨k, h⟩
  · rintro ⟨k, h⟩
    have := isAt_le h
    exact ⟨k, List.mem_range.mpr (by omega), h⟩
theorem isAt_cons {m w : List Nat} {c k : Nat} : isAt (c :: w) m k = true ↔ m[k]? = some c ∧ isAt w m (k + 1) = true := by
  unfold isAt
  simp only [Bool.and_eq_true, decide_eq_true_eq, beq_iff_eq, List.length_cons]
  constructor
  · rintro ⟨h1, h2⟩
    have hk : k < m.length := by omega
    rw [List.drop_eq_getElem_cons hk, List.take_succ_cons] at h2
    injection h2 with h3 h4
    refine ⟨by rw [List.getElem?_eq_getElem hk, h3], by omega, h4⟩
  · rintro ⟨h1, h2, h3⟩
    obtain ⟨hk, h4⟩ := List.getElem?_eq_some_iff.mp h1
    refine ⟨by omega, ?_⟩
    rw [List.drop_eq_getElem_cons hk, List.take_succ_cons, h3, h4]
theorem isAt0_eq {m w : List Nat} (h : isAt w m 0 = true) : m.take w.length = w := by
  unfold isAt at h
  rw [Bool.and_eq_true, beq_iff_eq, List.drop_zero] at h
  exact h.2
theorem lrank_rank (m w : List Nat) : lrankF m w = rankF m w := by
  unfold lrankF rankF
  have hf := findAt_spots (m := m) (w := w)
  cases e : spots m w with
  | nil =>
    rw [e] at hf
    have hn : hasT w m = false := by
      unfold hasT
      rw [hf]
      rfl
    have hno : ∀ k, isAt w m k ≠ true := fun k hk => by
      have := hasT_iff.mpr ⟨k, hk⟩
      rw [hn] at this
      cases this
    have h1 : m ≠ w := fun z => by
      subst z
      refine hno 0 ?_
      unfold isAt
      simp
    have h2 : ¬ hasT (32 :: w) m = true := fun z => by
      obtain ⟨k, hk⟩ := hasT_iff.mp z
      exact hno _ (isAt_cons.mp hk).2
    have h3 : ¬ hasT w m = true := by
      rw [hn]
      exact Bool.false_ne_true
    show (none : Option Nat) = _
    rw [if_neg h1, if_neg (hno 0), if_neg h2, if_neg h3]
  | cons i r =>
    rw [e] at hf
    have hi := mem_spots.mp (by rw [e]; exact List.mem_cons_self : i ∈ spots m w)
    have hhas : hasT w m = true := hasT_iff.mpr ⟨i, hi.2⟩
    have hmem : ∀ k, isAt w m k = true → k ∈ i :: r := fun k hk => by
      rw [← e]
      exact mem_spots.mpr ⟨by have := isAt_le hk; omega, hk⟩
    cases i with
    | zero =>
      show (if m.length = w.length then some 0 else some 1) = _
      have h0 := isAt0_eq hi.2
      by_cases hl : m.length = w.length
      · rw [if_pos hl]
        have : m = w := by
          rw [← h0, ← hl, List.take_length]
        rw [if_pos this]
      · rw [if_neg hl, if_neg (fun z => hl (by rw [z])), if_pos hi.2]
    | succ i =>
      show (if (((i + 1) :: r).filter fun k => decide (m[k - 1]? = some 32)) = [] then some 3 else some 2) = _
      have hn0 : ¬ isAt w m 0 = true := fun z => by
        have h1 : findAt w m = some 0 := find_some (by omega) z (fun k hk => absurd hk (Nat.not_lt_zero _))
        rw [h1] at hf
        cases hf
      have h1 : m ≠ w := fun z => by
        subst z
        refine hn0 ?_
        unfold isAt
        simp
      have hiff : hasT (32 :: w) m = true ↔ ¬ (((i + 1) :: r).filter fun k => decide (m[k - 1]? = some 32)) = [] := by
        rw [hasT_iff]
        constructor
        · rintro ⟨k, hk⟩ z
          obtain ⟨h2, h3⟩ := isAt_cons.mp hk
          have h4 : k + 1 ∈ ((i + 1) :: r).filter fun k => decide (m[k - 1]? = some 32) := List.mem_filter.mpr ⟨hmem _ h3, decide_eq_true h2⟩
          rw [z] at h4
          cases h4
        · intro z
          obtain ⟨k, hk⟩ := List.exists_mem_of_ne_nil _ z
          obtain ⟨h2, h3⟩ := List.mem_filter.mp hk
          have h4 := of_decide_eq_true h3
          rw [← e] at h2
          have h5 := mem_spots.mp h2
          cases k with
          | zero => exact absurd h5.2 hn0
          | succ k => exact ⟨k, isAt_cons.mpr ⟨h4, h5.2⟩⟩
      rw [if_neg h1, if_neg hn0]
      by_cases h2 : (((i + 1) :: r).filter fun k => decide (m[k - 1]? = some 32)) = []
      · rw [if_pos h2, if_neg (fun z => hiff.mp z h2), if_pos hhas]
      · rw [if_neg h2, if_pos (hiff.mpr h2)]

theorem spots_pos {m w : List Nat} {i : Nat} {r : List Nat} (h : spots m w = (i + 1) :: r) : ∀ k ∈ spots m w, k ≠ 0 := by
  intro k hk z
  subst z
  have h0 := (mem_spots.mp hk).2
  have h1 : findAt w m = some 0 := find_some (by omega) h0 (fun k hk => absurd hk (Nat.not_lt_zero _))
  rw [findAt_spots, h] at h1
  cases h1
abbrev nm__law_rank : List Str := ["_law_row_here", "_law_query_here", "_law_mine", "_law_wanted", "_law_spots", "_law_k"]
def t__law_rank (g : G) (W : WX) : TS := (tSeq (tAsg (tCallS (sp__law_folded g) (WE W) (tCons (tVar 0) tNil)) (gName 2)) (tSeq (tAsg (tCallS (sp__law_folded g) (WE W) (tCons (tVar 1) tNil)) (gName 3)) (tSeq (tAsg (tLc (iRng1 (tCons (tOp (rAddA g.K) (tCB (rLenA g.K) (tCons (tVar 2) tNil)) (tC (.int 1))) tNil)) (gName 5) (tTest (tOp (rEqA g.K) (tSl (rSlA g.K) (tVar 2) (tPart (tVar 5)) (tPart (tOp (rAddA g.K) (tVar 5) (tCB (rLenA g.K) (tCons (tVar 3) tNil))))) (tVar 3))) (tVar 5) [5]) (gName 4)) (tSeq (tIfS (tTest (tOp (rEqA g.K) (tVar 4) (tLst tNil))) (tRet (tC .non)) tNext) (tSeq (tIfS (tTest (tOp (rEqA g.K) (tOp (rIx g.K) (tVar 4) (tC (.int 0))) (tC (.int 0)))) (tRet (tIf (tTest (tOp (rEqA g.K) (tCB (rLenA g.K) (tCons (tVar 2) tNil)) (tCB (rLenA g.K) (tCons (tVar 3) tNil)))) (tC (.int 0)) (tC (.int 1)))) tNext) (tRet (tIf (tTest (tOp (rNeA g.K) (tLc (iList g.K (tVar 4)) (gName 5) (tTest (tOp (rEqA g.K) (tOp (rIx g.K) (tVar 2) (tOp (rSubA) (tVar 5) (tC (.int 1)))) (tC (.str (S [32]))))) (tVar 5) [5]) (tLst tNil))) (tC (.int 2)) (tC (.int 3)))))))))

theorem asc_lfold {s : List Nat} : (lfold s).length ≤ s.length := lfold_len s
theorem nat_cast_dec {a b : Nat} : decide ((a : Int) = (b : Int)) = decide (a = b) := by
  by_cases h : a = b
  · subst h
    simp
  · rw [decide_eq_false h, decide_eq_false (by omega)]
theorem filterMap_int (p : Nat → Bool) : ∀ l : List Nat, (l.map fun (i : Nat) => D.int (0 + (i : Int))).filterMap (fun d => match d with | .int k => if p k.toNat = true then some (D.int k) else none | _ => none) = (l.filter p).map fun (i : Nat) => D.int (i : Int)
  | [] => rfl
  | k :: l => by
    rw [List.map_cons, List.filterMap_cons, List.filter_cons, filterMap_int p l]
    simp only [Int.zero_add, Int.toNat_natCast]
    by_cases h : p k = true
    · rw [if_pos h, if_pos h]
      rfl
    · rw [if_neg h, if_neg h]
theorem filterMap_int2 (p : Nat → Bool) : ∀ l : List Nat, (l.map fun (i : Nat) => D.int (i : Int)).filterMap (fun d => match d with | .int k => if p k.toNat = true then some (D.int k) else none | _ => none) = (l.filter p).map fun (i : Nat) => D.int (i : Int)
  | [] => rfl
  | k :: l => by
    rw [List.map_cons, List.filterMap_cons, List.filter_cons, filterMap_int2 p l]
    simp only [Int.toNat_natCast]
    by_cases h : p k = true
    · rw [if_pos h, if_pos h]
      rfl
    · rw [if_neg h, if_neg h]
theorem okD_nil : okD (.lst []) = true := by decide +kernel
theorem pl_ints : ∀ l : List Nat, plains (l.map fun (i : Nat) => D.int (i : Int)) = true
  | [] => rfl
  | _ :: l => by
    rw [List.map_cons, plains, pl_ints l]
    rfl
theorem ok_ints (l : List Nat) : okD (.lst (l.map fun (i : Nat) => D.int (i : Int))) = true := by
  unfold okD
  rw [plain, pl_ints l, Bool.true_and]
  unfold SeqAt.shaped
  rw [toPy]
  have h1 : PyData.canLayAll0 (toPys (l.map fun (i : Nat) => D.int (i : Int))) = true := by
    induction l with
    | nil => rfl
    | cons a l ih =>
      rw [List.map_cons, toPys, PyData.canLayAll0, ih]
      rfl
  have h2 : PyData.depthAll (toPys (l.map fun (i : Nat) => D.int (i : Int))) = 0 := by
    induction l with
    | nil => rfl
    | cons a l ih =>
      rw [List.map_cons, toPys, PyData.depthAll, ih (by
        rw [List.map_cons, toPys, PyData.canLayAll0, Bool.and_eq_true] at h1
        exact h1.2)]
      rfl
  rw [PyData.canLay0, h1, PyData.depth, h2]
  rfl
theorem eqv_nil (ds : List D) : PyData.eqv (toPy (.lst ds)) (toPy (.lst [])) = ds.isEmpty := by
  cases ds with
  | nil => rfl
  | cons d ds =>
    rw [toPy, toPys, toPy, toPys, PyData.eqv, PyData.eqvAll]
    rfl
theorem isEmpty_map {α β : Type} (f : α → β) (l : List α) : (l.map f).isEmpty = l.isEmpty := by cases l <;> rfl
theorem d__law_rank {g : G} : Keeps 2 nm__law_rank (t__law_rank g) (ds__law_rank g) := by
  rintro W xs M Q E - ⟨row, query, rfl, hl, hl2, ha, ha2, q⟩
  show lS W (t__law_rank g W) [some (.str row), some (.str query), none, none, none, none] M _ _
  unfold t__law_rank
  walk_at "d"
  refine ⟨hl, ha, ?_⟩
  walk_at "d"
  refine ⟨hl2, ha2, ?_⟩
  walk_at "d"
  have hm := lfold_len row
  have hw := lfold_len query
  have hlrank : lrankF (lfold row) (lfold query) = lrankF (lfold row) (lfold query) := rfl
  generalize lfold row = m at *
  generalize lfold query = w at *
  refine l_lcP (wip_name (by decide)) ?_
  walk_at "d"
  refine ⟨by omega, by omega, fun d => match d with | .int k => if (decide ((m.drop k.toNat).take w.length = w)) = true then some (D.int k) else none | _ => none, ?_, fun _ _ => trivial, ?_, ?_⟩
  · unfold rngD
    rw [List.length_map, List.length_range]
    omega
  · intro d hd M' _
    obtain ⟨k, hk, rfl⟩ := List.mem_map.mp hd
    have hk := List.mem_range.mp hk
    rw [Int.zero_add]
    walk_at "d"
    refine sl_S (by omega) ?_
    rw [show (k : Int) + (w.length : Int) = ((k + w.length : Nat) : Int) by omega, cut_mid]
    walk_at "d"
    refine ⟨fun h => ?_, fun h => ⟨rfl, ?_⟩⟩
    · walk_at "d"
      simp only [Int.toNat_natCast]
      rw [if_pos h]
    · simp only [Int.toNat_natCast]
      rw [if_neg (by rw [h]; exact Bool.false_ne_true)]
  · unfold rngD
    rw [filterMap_int (fun k => decide ((m.drop k).take w.length = w)), show ((m.length : Int) + 1).toNat = m.length + 1 by omega]
    have hsp : (List.range (m.length + 1)).filter (fun k => decide ((m.drop k).take w.length = w)) = spots m w := rfl
    rw [hsp]
    unfold lrankF at q
    have hbound : ∀ k ∈ spots m w, k ≤ m.length := fun k hk => by
      rw [← hsp] at hk
      have := List.mem_range.mp (List.mem_filter.mp hk).1
      omega
    have hspl : (spots m w).length ≤ m.length + 1 := by
      rw [← hsp]
      have h1 := List.length_filter_le (fun k => decide ((m.drop k).take w.length = w)) (List.range (m.length + 1))
      rw [List.length_range] at h1
      exact h1
    have hpos : ∀ i r, spots m w = (i + 1) :: r → ∀ k ∈ spots m w, k ≠ 0 := fun i r => spots_pos
    generalize spots m w = sp at q hbound hspl hpos
    walk_at "d"
    refine l_lst ?_
    walk_at "d"
    refine r_eqD asD_self asD_self (ok_ints sp) okD_nil ?_
    rw [eqv_nil, isEmpty_map]
    walk_at "d"
    cases sp with
    | nil =>
      refine br_t ?_
      walk_at "d"
      exact q
    | cons i r =>
      refine br_f ?_
      walk_at "d"
      refine r_ix (d := .int (i : Int)) (.inl isL_lst) (at_nat (j := 0) rfl) ?_
      walk_at "d"
      cases i with
      | zero =>
        refine ⟨fun _ => ?_, fun z => absurd z (by simp)⟩
        walk_at "d"
        refine ⟨fun h => ?_, fun h => ?_⟩
        · rw [nat_cast_dec] at h
          have q : Q (optD (if m.length = w.length then some 0 else some 1)) M := q
          rw [if_pos (of_decide_eq_true h)] at q
          walk_at "d"
          exact q
        · rw [nat_cast_dec] at h
          have q : Q (optD (if m.length = w.length then some 0 else some 1)) M := q
          rw [if_neg (of_decide_eq_false h)] at q
          walk_at "d"
          exact q
      | succ i =>
        have q : Q (optD (if (((i + 1) :: r).filter fun k => decide (m[k - 1]? = some 32)) = [] then some 3 else some 2)) M := q
        refine ⟨fun z => absurd z (by simp; omega), fun _ => ?_⟩
        walk_at "d"
        refine l_lcP (wip_name (by decide)) ?_
        walk_at "d"
        refine ⟨_, isL_lst, fun d => match d with | .int k => if (decide (m[k.toNat - 1]? = some 32)) = true then some (D.int k) else none | _ => none, by rw [List.length_map]; omega, fun _ _ => isL_lst, ?_, ?_⟩
        · intro d hd M' _
          obtain ⟨k, hk, rfl⟩ := List.mem_map.mp hd
          have hkl := hbound k hk
          have hk0 := hpos i r rfl k hk
          obtain ⟨j, rfl⟩ : ∃ j, k = j + 1 := ⟨k - 1, by omega⟩
          have hj : j < m.length := by omega
          walk_at "d"
          refine r_ixS (c := m[j]) (by omega) (by rw [show ((j + 1 : Nat) : Int) - 1 = (j : Int) by omega]; exact at_nat (List.getElem?_eq_getElem hj)) ?_
          walk_at "d"
          have ee : decide ([m[j]] = [32]) = decide (m[j + 1 - 1]? = some 32) := by
            rw [Nat.add_sub_cancel, List.getElem?_eq_getElem hj]
            by_cases h : m[j] = 32
            · rw [decide_eq_true (by rw [h]), decide_eq_true (by rw [h])]
            · rw [decide_eq_false (by simpa using h), decide_eq_false (by simpa using h)]
          rw [ee]
          refine ⟨fun h => ?_, fun h => ⟨rfl, ?_⟩⟩
          · walk_at "d"
            simp only [Int.toNat_natCast]
            rw [if_pos h]
          · simp only [Int.toNat_natCast]
            rw [if_neg (by rw [h]; exact Bool.false_ne_true)]
        · rw [filterMap_int2 (fun k => decide (m[k - 1]? = some 32))]
          walk_at "d"
          refine l_lst ?_
          walk_at "d"
          refine r_neD asD_self asD_self (ok_ints _) okD_nil ?_
          rw [eqv_nil, isEmpty_map]
          walk_at "d"
          generalize List.filter (fun k => decide (m[k - 1]? = some 32)) ((i + 1) :: r) = fl at q
          cases fl with
          | nil =>
            refine br_f ?_
            walk_at "d"
            exact q
          | cons x l =>
            refine br_t ?_
            walk_at "d"
            exact q

/-! ### rows and queries that are drawn -/
/-- no q in it -/
def noq (r : List Nat) : Bool := r.all fun c => decide (c ≠ 113)
theorem noq_app {a b : List Nat} (h : noq a = true) (h2 : noq b = true) : noq (a ++ b) = true := by
  unfold noq
  rw [List.all_append]
  exact Bool.and_eq_true_iff.mpr ⟨h, h2⟩
def isRow (r : List Nat) : Prop := okT 15 r = true ∧ (∃ c ∈ r, c ≠ 32) ∧ noq r = true
def isQuery (q : List Nat) : Prop := okT 8 q = true
def ds__law_row (g : G) : DSp := fun xs M Q _ => ∃ (ns : List Int) (t : Addr) (n : Nat), xs = [scr g.K ns, .ref t] ∧ n + 10 < 90000 ∧ Twn M t n ∧ ∀ r M', isRow r → Tw M t (n + 7) M' → Q (.str r) M'
abbrev sp__law_row (g : G) : Sp := lift 2 (ds__law_row g)
def ds__law_query (g : G) : DSp := fun xs M Q _ => ∃ (ns : List Int) (t : Addr) (n : Nat), xs = [scr g.K ns, .ref t] ∧ n + 10 < 90000 ∧ Twn M t n ∧ ∀ r M', isQuery r → Tw M t (n + 5) M' → Q (.str r) M'
abbrev sp__law_query (g : G) : Sp := lift 2 (ds__law_query g)
theorem okT_mono {m n : Nat} {s : List Nat} (h : okT m s = true) (k : m ≤ n) : okT n s = true := by
  unfold okT at h ⊢
  rw [Bool.and_eq_true] at h ⊢
  exact ⟨decide_eq_true (Nat.le_trans (of_decide_eq_true h.1) k), h.2⟩
theorem okT_app {m n : Nat} {a b : List Nat} (h : okT m a = true) (h2 : okT n b = true) : okT (m + n) (a ++ b) = true := by
  unfold okT at h h2 ⊢
  rw [Bool.and_eq_true] at h h2 ⊢
  have h3 := of_decide_eq_true h.1
  have h4 := of_decide_eq_true h2.1
  refine ⟨decide_eq_true (by rw [List.length_append]; omega), ?_⟩
  rw [List.all_append, h.2, h2.2]
  rfl
theorem okT_all {m : Nat} {s : List Nat} (h : okT m s = true) : ∀ c ∈ s, okC c = true := by
  unfold okT at h
  rw [Bool.and_eq_true, List.all_eq_true] at h
  exact h.2
theorem okT_of {m : Nat} {s : List Nat} (h : s.length ≤ m) (h2 : ∀ c ∈ s, okC c = true) : okT m s = true := by
  unfold okT
  rw [Bool.and_eq_true, List.all_eq_true]
  exact ⟨decide_eq_true h, h2⟩
theorem mem_strs {d : D} {ps : List (List Nat)} (h : d ∈ ps.map D.str) : ∃ p ∈ ps, d = .str p := by
  obtain ⟨p, hp, e⟩ := List.mem_map.mp h
  exact ⟨p, hp, e.symm⟩
def rowPs : List (List Nat) := [[97], [97, 98], [65, 98], [98], [97, 98, 99], [98, 97], [99, 32]]
def gapPs : List (List Nat) := [[], [32], [32, 32]]
def qryPs : List (List Nat) := [[97], [98], [65], [97, 98], [32], [99]]
theorem rowPs_ok : ∀ p ∈ rowPs, okT 3 p = true ∧ p.head? ≠ some 32 ∧ p ≠ [] := by decide
theorem gapPs_ok : ∀ p ∈ gapPs, okT 2 p = true := by decide
theorem qryPs_ok : ∀ p ∈ qryPs, okT 2 p = true := by decide
theorem row_sign {p : List Nat} (h : p.head? ≠ some 32 ∧ p ≠ []) : ∃ c ∈ p, c ≠ 32 := by
  cases p with
  | nil => exact absurd rfl h.2
  | cons c r => exact ⟨c, List.mem_cons_self, fun z => h.1 (by rw [z]; rfl)⟩
theorem lstep_keeps {acc : List Nat} {c : Nat} (h : ∃ x ∈ acc, x ≠ 32) : ∃ x ∈ lstep acc c, x ≠ 32 := by
  obtain ⟨x, hx, hn⟩ := h
  unfold lstep
  split
  · exact ⟨x, List.mem_append_left _ hx, hn⟩
  · split
    · exact ⟨x, List.mem_append_left _ hx, hn⟩
    · exact ⟨x, hx, hn⟩
theorem foldl_keeps : ∀ (s acc : List Nat), (∃ x ∈ acc, x ≠ 32) → ∃ x ∈ s.foldl lstep acc, x ≠ 32
  | [], _, h => h
  | _ :: s, _, h => foldl_keeps s _ (lstep_keeps h)
theorem lfold_ne {s : List Nat} (h : ∃ c ∈ s, c ≠ 32) : lfold s ≠ [] := by
  have hk : ∃ x ∈ s.foldl lstep [], x ≠ 32 := by
    obtain ⟨c, hc, hn⟩ := h
    obtain ⟨a, b, rfl⟩ := List.append_of_mem hc
    rw [List.foldl_append, List.foldl_cons]
    refine foldl_keeps b _ ?_
    rw [lstep_word hn]
    exact ⟨lo1 c, List.mem_append_right _ List.mem_cons_self, fun z => hn (lo1_32.mp z)⟩
  unfold lfold
  obtain ⟨x, hx, hn⟩ := hk
  intro z
  unfold lfin at z
  split at z
  · rename_i h32
    have hne : s.foldl lstep [] ≠ [] := fun e => by
      rw [e] at hx
      cases hx
    have e := List.dropLast_concat_getLast hne
    rw [z, List.nil_append] at e
    rw [← e] at hx
    have h1 := List.mem_singleton.mp hx
    rw [List.getLast?_eq_getLast hne] at h32
    exact hn (h1.trans (Option.some.inj h32))
  · rw [z] at hx
    cases hx

/-! ### a law's promise, and its ends -/
def ds_lawK (K : PySem.W.Frag) : DSp := fun xs M Q _ => ∃ ns, xs = [scr K ns] ∧ ∀ M', Q (.bl true) M'
abbrev sp_lawK (K : PySem.W.Frag) : Sp := lift 1 (ds_lawK K)
abbrev ds_law (g : G) : DSp := ds_lawK g.K
abbrev sp_law (g : G) : Sp := sp_lawK g.K
theorem law_start {K : PySem.W.Frag} {H : Hp} {a : Addr} {ns : List Int} (h : SqL K H a (ns.map V.int)) : sp_lawK K [.ref a] H (fun v _ => v = .bl true) (fun _ _ _ => False) := by
  have e : imm H (fun _ => none) = H := by
    funext b
    rfl
  refine ⟨fun _ => none, [scr K ns], fun d _ => d = .bl true, fun _ _ => False, ⟨fun a c q => nomatch q⟩, .cons (scr_rp (by rw [e]; exact h)) .nil, rfl, ⟨ns, rfl, fun _ => rfl⟩, fun v d H' M' q _ _ r => ?_, fun c H' M' q _ _ => q.elim⟩
  subst q
  cases r
  rfl
theorem law_none {P : Program} {w : World} {H : Hp} {s s' : Shared} {e : Value} (h : L2.CX P w [] H s (fun _ _ _ => False) e s') : False := by
  obtain ⟨_, _, _, _, _, _, _, _, _, _, _, _, z⟩ := h
  exact z
abbrev nm__law_row : List Str := ["_law_script", "_law_town", "_law_found", "_law_k"]
def t__law_row (g : G) (W : WX) : TS := (tSeq (tAsg (tC (.str (S []))) (gName 2)) (tSeq (tFor (iRng1 (tCons (tOp (rAddA g.K) (tC (.int 1)) (tCallS (sp__law_draw g) (WE W) (tCons (tVar 0) (tCons (tVar 1) (tCons (tC (.int 3)) tNil))))) tNil)) (gName 3) (tSeq (tAsg (tOp (rAddA g.K) (tVar 2) (tCallS (sp__law_pick g) (WE W) (tCons (tVar 0) (tCons (tVar 1) (tCons (tLst (tCons (tC (.str (S [97]))) (tCons (tC (.str (S [97, 98]))) (tCons (tC (.str (S [65, 98]))) (tCons (tC (.str (S [98]))) (tCons (tC (.str (S [97, 98, 99]))) (tCons (tC (.str (S [98, 97]))) (tCons (tC (.str (S [99, 32]))) tNil)))))))) tNil))))) (gName 2)) (tAsg (tOp (rAddA g.K) (tVar 2) (tCallS (sp__law_pick g) (WE W) (tCons (tVar 0) (tCons (tVar 1) (tCons (tLst (tCons (tC (.str (S []))) (tCons (tC (.str (S [32]))) (tCons (tC (.str (S [32, 32]))) tNil)))) tNil))))) (gName 2)))) (tRet (tVar 2))))
abbrev nm__law_query : List Str := ["_law_script", "_law_town", "_law_found", "_law_k"]
def t__law_query (g : G) (W : WX) : TS := (tSeq (tAsg (tC (.str (S []))) (gName 2)) (tSeq (tFor (iRng1 (tCons (tCallS (sp__law_draw g) (WE W) (tCons (tVar 0) (tCons (tVar 1) (tCons (tC (.int 5)) tNil)))) tNil)) (gName 3) (tAsg (tOp (rAddA g.K) (tVar 2) (tCallS (sp__law_pick g) (WE W) (tCons (tVar 0) (tCons (tVar 1) (tCons (tLst (tCons (tC (.str (S [97]))) (tCons (tC (.str (S [98]))) (tCons (tC (.str (S [65]))) (tCons (tC (.str (S [97, 98]))) (tCons (tC (.str (S [32]))) (tCons (tC (.str (S [99]))) tNil))))))) tNil))))) (gName 2))) (tRet (tVar 2))))

theorem rowPs_noq : ∀ p ∈ rowPs, noq p = true := by decide
theorem gapPs_noq : ∀ p ∈ gapPs, noq p = true := by decide
theorem d__law_row {g : G} : Keeps 2 nm__law_row (t__law_row g) (ds__law_row g) := by
  rintro W xs M Q E - ⟨ns, t, n, rfl, hn, ht, q⟩
  show lS W (t__law_row g W) [some (scr g.K ns), some (.ref t), none, none] M _ _
  unfold t__law_row
  walk_at "d"
  refine s_for ?_
  walk_at "d"
  refine ⟨ns, t, 3, n, rfl, by omega, by omega, ht, fun d M1 hd w => ?_⟩
  walk_at "d"
  refine ⟨by omega, by omega, fun i ρ M' => ∃ (s : List Nat) (y : Option D), ρ = [some (scr g.K ns), some (.ref t), some (.str s), y] ∧ okT (5 * i) s = true ∧ (0 < i → ∃ c ∈ s, c ≠ 32) ∧ noq s = true ∧ Tw M t (n + 1 + 2 * i) M', ⟨[], none, rfl, rfl, fun z => absurd z (Nat.lt_irrefl _), rfl, w⟩, fun _ _ _ _ => trivial, ?_, ?_⟩
  · rintro i ρ' M' d2 hd2 ⟨s, y, rfl, hs, hc, hq, w2⟩
    have hi : i < d + 1 := by
      have h1 := (List.getElem?_eq_some_iff.mp hd2).1
      unfold rngD at h1
      rw [List.length_map, List.length_range] at h1
      omega
    have hsl := okT_len hs
    walk_at "d"
    refine l_lst ?_
    walk_at "d"
    refine ⟨ns, t, .lst (rowPs.map D.str), rowPs.map D.str, n + 1 + 2 * i, rfl, .inl rfl, by decide, by omega, w2.twn, fun d3 M3 hd3 w3 => ?_⟩
    obtain ⟨p, hp, rfl⟩ := mem_strs hd3
    obtain ⟨p1, p2⟩ := rowPs_ok p hp
    have hpl := okT_len p1
    refine r_addS (by omega) ?_
    walk_at "d"
    refine l_lst ?_
    walk_at "d"
    refine ⟨ns, t, .lst (gapPs.map D.str), gapPs.map D.str, n + 1 + 2 * i + 1, rfl, .inl rfl, by decide, by omega, w3.twn, fun d4 M4 hd4 w4 => ?_⟩
    obtain ⟨p', hp', rfl⟩ := mem_strs hd4
    have p3 := gapPs_ok p' hp'
    have hpl' := okT_len p3
    refine r_addS (by rw [List.length_append]; omega) ?_
    walk_at "d"
    refine ⟨_, _, rfl, ?_, fun _ => ?_, noq_app (noq_app hq (rowPs_noq p hp)) (gapPs_noq p' hp'), (w2.trans (w3.trans w4)).mono (by omega)⟩
    · exact okT_mono (okT_app (okT_app hs p1) p3) (by omega)
    · obtain ⟨c, hc1, hc2⟩ := row_sign p2
      exact ⟨c, List.mem_append_left _ (List.mem_append_right _ hc1), hc2⟩
  · rintro ρ' M' ⟨s, y, rfl, hs, hc, hq, w2⟩
    have hlen : (rngD 0 (1 + (d : Int)).toNat).length = d + 1 := by
      unfold rngD
      rw [List.length_map, List.length_range]
      omega
    rw [hlen] at hs hc w2
    walk_at "d"
    exact q s M' ⟨okT_mono hs (by omega), hc (by omega), hq⟩ (w2.mono (by omega))
theorem d__law_query {g : G} : Keeps 2 nm__law_query (t__law_query g) (ds__law_query g) := by
  rintro W xs M Q E - ⟨ns, t, n, rfl, hn, ht, q⟩
  show lS W (t__law_query g W) [some (scr g.K ns), some (.ref t), none, none] M _ _
  unfold t__law_query
  walk_at "d"
  refine s_for ?_
  walk_at "d"
  refine ⟨ns, t, 5, n, rfl, by omega, by omega, ht, fun d M1 hd w => ?_⟩
  walk_at "d"
  refine ⟨by omega, by omega, fun i ρ M' => ∃ (s : List Nat) (y : Option D), ρ = [some (scr g.K ns), some (.ref t), some (.str s), y] ∧ okT (2 * i) s = true ∧ Tw M t (n + 1 + i) M', ⟨[], none, rfl, rfl, w⟩, fun _ _ _ _ => trivial, ?_, ?_⟩
  · rintro i ρ' M' d2 hd2 ⟨s, y, rfl, hs, w2⟩
    have hi : i < d := by
      have h1 := (List.getElem?_eq_some_iff.mp hd2).1
      unfold rngD at h1
      rw [List.length_map, List.length_range] at h1
      omega
    have hsl := okT_len hs
    walk_at "d"
    refine l_lst ?_
    walk_at "d"
    refine ⟨ns, t, .lst (qryPs.map D.str), qryPs.map D.str, n + 1 + i, rfl, .inl rfl, by decide, by omega, w2.twn, fun d3 M3 hd3 w3 => ?_⟩
    obtain ⟨p, hp, rfl⟩ := mem_strs hd3
    have p1 := qryPs_ok p hp
    have hpl := okT_len p1
    refine r_addS (by omega) ?_
    walk_at "d"
    exact ⟨_, _, rfl, okT_mono (okT_app hs p1) (by omega), (w2.trans w3).mono (by omega)⟩
  · rintro ρ' M' ⟨s, y, rfl, hs, w2⟩
    have hlen : (rngD 0 (d : Int).toNat).length = d := by
      unfold rngD
      rw [List.length_map, List.length_range]
      omega
    rw [hlen] at hs w2
    walk_at "d"
    exact q s M' (okT_mono hs (by omega)) (w2.mono (by omega))

/-! ### stores: what they compute -/
abbrev Tri := Nat × List Nat × List Nat
def triD (t : Tri) : D := .tup [.int (t.1 : Int), .str t.2.1, .str t.2.2]
def triF (q r : List Nat) : Option Tri := (rankP r q).map fun k => (k, fold r, r)
def leT (a b : Tri) : Bool := leD (triD a) (triD b)
def sortT (ts : List Tri) : List Tri := ts.mergeSort leT
/-- all rows that fit, the best ahead -/
def allBest (ss : List (List Nat)) (q : List Nat) : List (List Nat) := (sortT (ss.filterMap (triF q))).map (·.2.2)
def bestF (ss : List (List Nat)) (q : List Nat) (n : Nat) : List (List Nat) := (allBest ss q).take n
theorem triOk (ts : List Tri) : SortOk (ts.map triD) := SortOk.of (fun _ => rfl) (fun _ _ => rfl) (.inl fun b => ⟨_, _, rfl⟩) (fun b => by show _ ≤ 60; simp [triD, toPy, toPys, PyData.depth, PyData.depthAll])
theorem srt_tri (ts : List Tri) : srt (ts.map triD) = (sortT ts).map triD := srt_map triD ts
/-! the promises -/
def ds_look_many (g : G) : DSp := fun xs M Q E => ∃ m : Int, xs = [.int m] ∧ ((1 ≤ m ∧ m ≤ 6) → Q .non M) ∧ (¬ (1 ≤ m ∧ m ≤ 6) → E g.cN M)
abbrev sp_look_many (g : G) : Sp := lift 1 (ds_look_many g)
def rowsOk (ss : List (List Nat)) : Prop := (∀ s ∈ ss, okT 20 s = true) ∧ ss.length ≤ 1000
def ds_best (g : G) : DSp := fun xs M Q _ => ∃ (x : D) (ss : List (List Nat)) (q : List Nat) (n : Nat), xs = [x, .str q, .int (n : Int)] ∧ isL M x (ss.map D.str) ∧ rowsOk ss ∧ okT 12 q = true ∧ Q (.lst ((bestF ss q n).map D.str)) M
abbrev sp_best (g : G) : Sp := lift 3 (ds_best g)
/-- the store at a: its rows, at r -/
structure IsSt (g : G) (M : Mh) (a r : Addr) (ss : List (List Nat)) : Prop where
  ob : M a = some (.ins g.cS ["rows"] [.ref r])
  rs : M r = some (.lst (ss.map D.str))
theorem IsSt.ne {g : G} {M : Mh} {a r : Addr} {ss : List (List Nat)} (h : IsSt g M a r ss) : a ≠ r := fun z => by
  have h1 := h.ob
  rw [z, h.rs] at h1
  cases h1
def ds_Store___init__ (g : G) : DSp := fun xs M Q _ => ∃ a : Addr, xs = [.ref a] ∧ M a = some (.ins g.cS [] []) ∧ ∀ r, M r = none → Q .non (upM (upM M r (.lst [])) a (.ins g.cS ["rows"] [.ref r]))
abbrev sp_Store___init__ (g : G) : Sp := lift 1 (ds_Store___init__ g)
def addF (ss : List (List Nat)) (row : List Nat) : Option Xw := if okT 20 row = true ∧ fold row ≠ [] ∧ row ∉ ss then (if ss.length = 12 then some .number else none) else some .text
def ds_Store_add (g : G) : DSp := fun xs M Q E => ∃ (a r : Addr) (ss : List (List Nat)) (row : List Nat), xs = [.ref a, .str row] ∧ row.length ≤ 1000 ∧ ss.length ≤ 1000 ∧ IsSt g M a r ss ∧ (addF ss row = none → Q .non (upM M r (.lst ((ss ++ [row]).map D.str)))) ∧ ∀ w, addF ss row = some w → E (w.cls g) M
abbrev sp_Store_add (g : G) : Sp := lift 2 (ds_Store_add g)
def ds_Store_remove (g : G) : DSp := fun xs M Q E => ∃ (a r : Addr) (ss : List (List Nat)) (row : List Nat), xs = [.ref a, .str row] ∧ IsSt g M a r ss ∧ (row ∈ ss → Q .non (upM M r (.lst ((ss.erase row).map D.str)))) ∧ (row ∉ ss → E g.cT M)
abbrev sp_Store_remove (g : G) : Sp := lift 2 (ds_Store_remove g)
def ds_Store_all_rows (g : G) : DSp := fun xs M Q _ => ∃ (a r : Addr) (ss : List (List Nat)), xs = [.ref a] ∧ IsSt g M a r ss ∧ ∀ l, M l = none → Q (.ref l) (upM M l (.lst (ss.map D.str)))
abbrev sp_Store_all_rows (g : G) : Sp := lift 1 (ds_Store_all_rows g)
def ansF (q : List Nat) (m : Int) : Option Xw := if 1 ≤ m ∧ m ≤ 6 then (if okT 12 q = true then none else some .text) else some .number
/-- (rows, is_all) -/
def ansD (ss : List (List Nat)) (q : List Nat) (m : Nat) : D := .tup [.lst ((bestF ss q m).map D.str), .bl (decide ((allBest ss q).length ≤ m))]
def ds_Store_answer (g : G) : DSp := fun xs M Q E => ∃ (a r : Addr) (ss : List (List Nat)) (q : List Nat) (m : Int), xs = [.ref a, .str q, .int m] ∧ q.length ≤ 1000 ∧ rowsOk ss ∧ IsSt g M a r ss ∧ (ansF q m = none → Q (ansD ss q m.toNat) M) ∧ ∀ w, ansF q m = some w → E (w.cls g) M
abbrev sp_Store_answer (g : G) : Sp := lift 3 (ds_Store_answer g)
abbrev nm_look_many : List Str := ["many"]
def t_look_many (g : G) (W : WX) : TS := (tIfS (tNot (tTest (tChain (rLeA) (rLeA) (tC (.int 1)) (tVar 0) (tC (.int 6))))) (tRaiseC g.cN W) tNext)
abbrev nm_best : List Str := ["rows", "query", "many", "some", "row", "fits", "small", "one"]
def t_best (g : G) (W : WX) : TS := (tSeq (tAsg (tLc (iList g.K (tVar 0)) (gName 4) tYes (tTup (tCons (tCallS (sp_rank g) (WE W0) (tCons (tVar 4) (tCons (tVar 1) tNil))) (tCons (tCallS (sp_folded g) (WE W0) (tCons (tVar 4) tNil)) (tCons (tVar 4) tNil)))) [4]) (gName 3)) (tRet (tSl (rSlA g.K) (tLc (iList g.K (tCB (rSortA g.K) (tCons (tLc (iList g.K (tVar 3)) (gName 7) (tTest (tOp (rNotNo) (tOp (rIx g.K) (tVar 7) (tC (.int 0))) (tC .non))) (tVar 7) [7]) tNil))) (gTup g.K 3 (gCons (gName 5) (gCons (gName 6) (gCons (gName 4) gNil)))) tYes (tVar 4) [5, 6, 4]) tNoPart (tPart (tVar 2)))))
abbrev nm_Store___init__ : List Str := ["self"]
def t_Store___init__ (g : G) (W : WX) : TS := (sFld g.K (tVar 0) (tLst tNil) "rows")
abbrev nm_Store_add : List Str := ["self", "row"]
def t_Store_add (g : G) (W : WX) : TS := (tSeq (tDrop (tCallS (sp_look_text g) (WE W) (tCons (tVar 1) (tCons (tC (.int 20)) tNil)))) (tSeq (tIfS (tOr (tTest (tOp (rEqA g.K) (tCallS (sp_folded g) (WE W) (tCons (tVar 1) tNil)) (tC (.str (S []))))) (tTest (tOp (rInA g.K) (tVar 1) (tFld g.K (tVar 0) "rows")))) (tRaiseC g.cT W) tNext) (tSeq (tIfS (tTest (tOp (rEqA g.K) (tCB (rLenA g.K) (tCons (tFld g.K (tVar 0) "rows") tNil)) (tC (.int 12)))) (tRaiseC g.cN W) tNext) (tDrop (tBM g.K "list" (rAppend) (tFld g.K (tVar 0) "rows") (tCons (tVar 1) tNil))))))
abbrev nm_Store_remove : List Str := ["self", "row"]
def t_Store_remove (g : G) (W : WX) : TS := (tSeq (tIfS (tTest (tOp (rNinA g.K) (tVar 1) (tFld g.K (tVar 0) "rows"))) (tRaiseC g.cT W) tNext) (tDrop (tBM g.K "list" (rRemF) (tFld g.K (tVar 0) "rows") (tCons (tVar 1) tNil))))
abbrev nm_Store_all_rows : List Str := ["self"]
def t_Store_all_rows (g : G) (W : WX) : TS := (tRet (tCB (rListA g.K) (tCons (tFld g.K (tVar 0) "rows") tNil)))
abbrev nm_Store_answer : List Str := ["self", "query", "many", "some"]
def t_Store_answer (g : G) (W : WX) : TS := (tSeq (tDrop (tCallS (sp_look_many g) (WE W) (tCons (tVar 2) tNil))) (tSeq (tDrop (tCallS (sp_look_text g) (WE W) (tCons (tVar 1) (tCons (tC (.int 12)) tNil)))) (tSeq (tAsg (tCallS (sp_best g) (WE W) (tCons (tFld g.K (tVar 0) "rows") (tCons (tVar 1) (tCons (tCB (rLenA g.K) (tCons (tFld g.K (tVar 0) "rows") tNil)) tNil)))) (gName 3)) (tRet (tTup (tCons (tSl (rSlA g.K) (tVar 3) tNoPart (tPart (tVar 2))) (tCons (tOp (rLeA) (tCB (rLenA g.K) (tCons (tVar 3) tNil)) (tVar 2)) tNil)))))))

local macro_rules | `(tactic| walk_at "d1") => `(tactic| first
  | with_reducible refine br_nt ?_
  | with_reducible refine br_nf ?_
  | with_reducible refine l_revA ?_
  | with_reducible refine g_cons ?_
  | with_reducible refine g_nil ?_
  | with_reducible refine g_tup rfl ?_)
theorem d_look_many {g : G} : Keeps 1 nm_look_many (t_look_many g) (ds_look_many g) := by
  rintro W xs M Q E - ⟨m, rfl, q1, q2⟩
  show lS W (t_look_many g W) [some (.int m)] M _ _
  unfold t_look_many
  walk_at "d"
  refine ⟨fun h => ?_, fun h => ?_⟩
  · have h1 := of_decide_eq_true h
    walk_at "d"
    refine ⟨fun h2 => ?_, fun h2 => ?_⟩
    · walk_at "d"
      refine q2 fun h3 => ?_
      have h4 : ¬ m ≤ 6 := by simpa using h2
      omega
    · walk_at "d"
      have h4 : m ≤ 6 := by simpa using h2
      exact q1 ⟨h1, h4⟩
  · walk_at "d"
    refine q2 fun h3 => ?_
    have := of_decide_eq_false h
    omega
theorem isL.kn {M M' : Mh} {x : D} {ds : List D} (h : isL M x ds) (k : KnM M M') : isL M' x ds := by
  rcases h with rfl | ⟨a, rfl, m⟩
  · exact isL_lst
  · exact isL_ref (k _ _ m)
theorem filterMap_tri (q : List Nat) : ∀ ss : List (List Nat), ((ss.map D.str).filterMap fun d => match d with | .str r => some (D.tup [optD (rankP r q), .str (fold r), .str r]) | _ => none) = ss.map fun r => D.tup [optD (rankP r q), .str (fold r), .str r]
  | [] => rfl
  | s :: ss => by
    have ih := filterMap_tri q ss
    rw [List.map_cons, List.filterMap_cons]
    show D.tup [optD (rankP s q), .str (fold s), .str s] :: _ = _
    rw [ih]
    rfl
theorem filterMap_fit (q : List Nat) : ∀ ss : List (List Nat), ((ss.map fun r => D.tup [optD (rankP r q), .str (fold r), .str r]).filterMap fun d => match d with | .tup (.non :: _) => none | d => some d) = (ss.filterMap (triF q)).map triD
  | [] => rfl
  | s :: ss => by
    have ih := filterMap_fit q ss
    rw [List.map_cons, List.filterMap_cons, List.filterMap_cons]
    unfold triF
    cases rankP s q with
    | none => exact ih
    | some k => exact congrArg (_ :: ·) ih
def rowOf : D → Option D
  | .tup [_, _, r] => some r
  | _ => none
theorem filterMap_row : ∀ ts : List Tri, ((ts.map triD).filterMap rowOf) = (ts.map (·.2.2)).map D.str
  | [] => rfl
  | t :: ts => congrArg (_ :: ·) (filterMap_row ts)
theorem d_best {g : G} : Keeps 3 nm_best (t_best g) (ds_best g) := by
  rintro W xs M Q E - ⟨x, ss, q, n, rfl, hx, hss, hq, qq⟩
  show lS W (t_best g W) [some x, some (.str q), some (.int n), none, none, none, none, none] M _ _
  have hql := okT_len hq
  unfold t_best
  walk_at "d"
  refine l_lcP (wip_name (by decide)) ?_
  walk_at "d"
  refine ⟨_, hx, fun d => match d with | .str r => some (.tup [optD (rankP r q), .str (fold r), .str r]) | _ => none, by rw [List.length_map]; have := hss.2; omega, fun M' k => hx.kn k, ?_, ?_⟩
  · intro d hd M' k
    obtain ⟨r, hr, rfl⟩ := mem_strs hd
    have hrk := hss.1 r hr
    have hrl := okT_len hrk
    walk_at "d"
    refine ⟨r, q, rfl, by omega, by omega, fun _ => ?_, fun h => absurd h (by rw [hq, hrk]; decide)⟩
    walk_at "d"
    refine ⟨by omega, fun _ => ?_, fun h => absurd h (by rw [hrk]; decide)⟩
    walk_at "d"
    rfl
  · rw [filterMap_tri]
    walk_at "d"
    refine l_lcP (wip_tup (wip_cons (wip_name (by decide)) (wip_cons (wip_name (by decide)) (wip_cons (wip_name (by decide)) wip_nil)))) ?_
    walk_at "d"
    refine l_lcP (wip_name (by decide)) ?_
    walk_at "d"
    have hlen := hss.2
    refine ⟨_, isL_lst, fun d => match d with | .tup (.non :: _) => none | d => some d, by rw [List.length_map]; omega, fun M' k => isL_lst, ?_, ?_⟩
    · intro d hd M' k
      obtain ⟨r, hr, rfl⟩ := List.mem_map.mp hd
      walk_at "d"
      refine r_ix (ds := [optD (rankP r q), .str (fold r), .str r]) (.inr rfl) rfl ?_
      walk_at "d"
      cases rankP r q with
      | none =>
        refine r_notN (x := .non) rfl ?_
        exact ⟨_, rfl, br_nf' ⟨rfl, rfl⟩⟩
      | some k =>
        refine r_notN (x := .int (k : Int)) rfl ?_
        refine ⟨_, rfl, br_nt' ?_⟩
        walk_at "d"
        rfl
    · rw [filterMap_fit]
      walk_at "d"
      refine c_sort isL_lst (triOk _) ?_
      rw [srt_tri]
      have hl2 : (sortT (ss.filterMap (triF q))).length ≤ 1000 := by
        unfold sortT
        rw [List.length_mergeSort]
        exact Nat.le_trans (List.length_filterMap_le _ _) hlen
      refine ⟨_, isL_lst, rowOf, by rw [List.length_map]; omega, fun M' k => isL_lst, ?_, ?_⟩
      · intro d hd M' k
        obtain ⟨t, ht, rfl⟩ := List.mem_map.mp hd
        unfold triD
        walk_at "d"
        rfl
      · rw [filterMap_row]
        walk_at "d"
        refine sl_L isL_lst ?_
        rw [cut_to, ← List.map_take]
        exact qq
theorem d_Store___init__ {g : G} (fl : Fld g.K g.cS ["rows"]) : Keeps 1 nm_Store___init__ (t_Store___init__ g) (ds_Store___init__ g) := by
  rintro W xs M Q E - ⟨a, rfl, ha, q⟩
  show lS W (t_Store___init__ g W) [some (.ref a)] M _ _
  unfold t_Store___init__
  refine s_fldN fl 0 rfl (ns0 := []) rfl ?_
  refine l_lstM ?_
  walk_at "d"
  intro r hr
  walk_at "d"
  have hne : a ≠ r := fun z => by
    rw [z, hr] at ha
    cases ha
  refine ⟨a, [], rfl, by rw [upM_ne hne]; exact ha, q r hr⟩
theorem okT_1000 {m : Nat} {s : List Nat} (h : okT m s = true) (hm : m ≤ 1000) : s.length ≤ 1000 := Nat.le_trans (okT_len h) hm
theorem d_Store_add {g : G} (fl : Fld g.K g.cS ["rows"]) : Keeps 2 nm_Store_add (t_Store_add g) (ds_Store_add g) := by
  rintro W xs M Q E - ⟨a, r, ss, row, rfl, hl, hl2, st, q1, q2⟩
  show lS W (t_Store_add g W) [some (.ref a), some (.str row)] M _ _
  unfold t_Store_add
  have bad : ∀ w, addF ss row = some w → E (w.cls g) M := q2
  unfold addF at q1 bad
  walk_at "d"
  refine ⟨row, 20, rfl, hl, fun h => ?_, fun h => ?_⟩
  · rw [h] at q1 bad
    walk_at "d"
    refine ⟨hl, fun _ => ?_, fun z => absurd z (by rw [h]; decide)⟩
    walk_at "d"
    refine ⟨fun h2 => ?_, fun h2 => ?_⟩
    · walk_at "d"
      exact bad .text (if_neg fun z => z.2.1 (of_decide_eq_true h2))
    · have h2' := of_decide_eq_false h2
      walk_at "d"
      refine l_fld fl 0 rfl ?_
      walk_at "d"
      refine ⟨a, _, _, rfl, st.ob, rfl, ?_⟩
      refine r_inSs (.inl (isL_ref st.rs)) ?_
      walk_at "d"
      refine ⟨fun h3 => ?_, fun h3 => ?_⟩
      · walk_at "d"
        exact bad .text (if_neg fun z => z.2.2 (of_decide_eq_true h3))
      · have h3' := of_decide_eq_false h3
        rw [if_pos ⟨rfl, h2', h3'⟩] at q1 bad
        walk_at "d"
        refine l_fld fl 0 rfl ?_
        walk_at "d"
        refine ⟨a, _, _, rfl, st.ob, rfl, ?_⟩
        refine a_nil (c_len (.inl (isL_ref st.rs)) ?_)
        walk_at "d"
        rw [List.length_map]
        walk_at "d"
        refine ⟨fun h4 => ?_, fun h4 => ?_⟩
        · walk_at "d"
          exact bad .number (if_pos (by have := of_decide_eq_true h4; omega))
        · rw [if_neg (by have := of_decide_eq_false h4; omega)] at q1
          walk_at "d"
          refine l_bmL (l_fld fl 0 rfl ?_)
          walk_at "d"
          refine ⟨a, _, _, rfl, st.ob, rfl, ⟨_, isL_ref st.rs⟩, ?_⟩
          walk_at "d"
          refine m_append st.rs (by rw [List.length_map]; omega) ?_
          have := q1 rfl
          rw [List.map_append] at this
          exact this
  · exact bad .text (if_neg fun z => absurd z.1 (by rw [h]; decide))
theorem d_Store_remove {g : G} (fl : Fld g.K g.cS ["rows"]) : Keeps 2 nm_Store_remove (t_Store_remove g) (ds_Store_remove g) := by
  rintro W xs M Q E - ⟨a, r, ss, row, rfl, st, q1, q2⟩
  show lS W (t_Store_remove g W) [some (.ref a), some (.str row)] M _ _
  unfold t_Store_remove
  walk_at "d"
  refine l_fld fl 0 rfl ?_
  walk_at "d"
  refine ⟨a, _, _, rfl, st.ob, rfl, ?_⟩
  refine r_ninSs (.inl (isL_ref st.rs)) ?_
  walk_at "d"
  refine ⟨fun h => ?_, fun h => ?_⟩
  · walk_at "d"
    exact q2 (by simpa using h)
  · have h' : row ∈ ss := by simpa using h
    walk_at "d"
    refine l_bmL (l_fld fl 0 rfl ?_)
    walk_at "d"
    refine ⟨a, _, _, rfl, st.ob, rfl, ⟨_, isL_ref st.rs⟩, ?_⟩
    walk_at "d"
    exact m_remS st.rs h' (q1 h')
theorem d_Store_all_rows {g : G} (fl : Fld g.K g.cS ["rows"]) : Keeps 1 nm_Store_all_rows (t_Store_all_rows g) (ds_Store_all_rows g) := by
  rintro W xs M Q E - ⟨a, r, ss, rfl, st, q⟩
  show lS W (t_Store_all_rows g W) [some (.ref a)] M _ _
  unfold t_Store_all_rows
  walk_at "d"
  refine l_fld fl 0 rfl ?_
  walk_at "d"
  refine ⟨a, _, _, rfl, st.ob, rfl, ?_⟩
  walk_at "d"
  exact c_listM (.inl (isL_ref st.rs)) q
theorem d_Store_answer {g : G} (fl : Fld g.K g.cS ["rows"]) : Keeps 3 nm_Store_answer (t_Store_answer g) (ds_Store_answer g) := by
  rintro W xs M Q E - ⟨a, r, ss, qu, m, rfl, hl, hss, st, q1, q2⟩
  show lS W (t_Store_answer g W) [some (.ref a), some (.str qu), some (.int m), none] M _ _
  unfold t_Store_answer
  have bad : ∀ w, ansF qu m = some w → E (w.cls g) M := q2
  unfold ansF at q1 bad
  walk_at "d"
  refine ⟨fun h => ?_, fun h => bad .number (if_neg h)⟩
  rw [if_pos h] at q1 bad
  walk_at "d"
  refine ⟨qu, 12, rfl, hl, fun h2 => ?_, fun h2 => bad .text (if_neg (by rw [h2]; decide))⟩
  rw [if_pos h2] at q1
  walk_at "d"
  refine l_fld fl 0 rfl ?_
  walk_at "d"
  refine ⟨a, _, _, rfl, st.ob, rfl, ?_⟩
  walk_at "d"
  refine l_fld fl 0 rfl ?_
  walk_at "d"
  refine ⟨a, _, _, rfl, st.ob, rfl, ?_⟩
  walk_at "d"
  refine c_len (.inl (isL_ref st.rs)) ?_
  rw [List.length_map]
  walk_at "d"
  refine ⟨_, ss, qu, ss.length, rfl, isL_ref st.rs, hss, h2, ?_⟩
  have ea : bestF ss qu ss.length = allBest ss qu := by
    unfold bestF
    refine List.take_of_length_le ?_
    unfold allBest sortT
    rw [List.length_map, List.length_mergeSort]
    exact List.length_filterMap_le _ _
  rw [ea]
  walk_at "d"
  refine sl_L isL_lst ?_
  obtain ⟨k, rfl⟩ : ∃ k : Nat, m = (k : Int) := ⟨m.toNat, by omega⟩
  rw [cut_to, ← List.map_take]
  walk_at "d"
  refine c_len (.inl isL_lst) ?_
  walk_at "d"
  have := q1 rfl
  have e : decide (((List.map D.str (allBest ss qu)).length : Int) ≤ (k : Int)) = decide ((allBest ss qu).length ≤ k) := by
    rw [List.length_map]
    by_cases z : (allBest ss qu).length ≤ k
    · rw [decide_eq_true z, decide_eq_true (by omega)]
    · rw [decide_eq_false z, decide_eq_false (by omega)]
  rw [e]
  exact this
abbrev nm__law_best : List Str := ["_law_rows_here", "_law_query_here", "_law_many", "_law_found", "_law_row_here", "_law_fits", "_law_small"]
def t__law_best (g : G) (W : WX) : TS := (tSeq (tAsg (tLst tNil) (gName 3)) (tSeq (tFor (iList g.K (tVar 0)) (gName 4) (tSeq (tAsg (tCallS (sp__law_rank g) (WE W) (tCons (tVar 4) (tCons (tVar 1) tNil))) (gName 5)) (tIfS (tTest (tOp (rNotNo) (tVar 5) (tC .non))) (tDrop (tBM g.K "list" (rAppend) (tVar 3) (tCons (tTup (tCons (tVar 5) (tCons (tCallS (sp__law_folded g) (WE W) (tCons (tVar 4) tNil)) (tCons (tVar 4) tNil)))) tNil))) tNext))) (tRet (tSl (rSlA g.K) (tLc (iList g.K (tCB (rSortA g.K) (tCons (tVar 3) tNil))) (gTup g.K 3 (gCons (gName 5) (gCons (gName 6) (gCons (gName 4) gNil)))) tYes (tVar 4) [5, 6, 4]) tNoPart (tPart (tVar 2))))))


/-! ### the law's own best -/
def ds__law_best (g : G) : DSp := fun xs M Q _ => ∃ (x : D) (ss : List (List Nat)) (q : List Nat) (n : Nat), xs = [x, .str q, .int (n : Int)] ∧ isL M x (ss.map D.str) ∧ rowsOk ss ∧ okT 12 q = true ∧ Q (.lst ((bestF ss q n).map D.str)) M
abbrev sp__law_best (g : G) : Sp := lift 3 (ds__law_best g)
theorem isL.up {M : Mh} {x : D} {ds : List D} {a : Addr} {c : Cell} (h : isL M x ds) (ha : M a = none) : isL (upM M a c) x ds := h.kn fun b c' e => by
  have n : b ≠ a := fun z => by
    rw [z, ha] at e
    cases e
  rw [upM_ne n]
  exact e
theorem take_succ_get {α : Type} {l : List α} {i : Nat} {a : α} (h : l[i]? = some a) : l.take (i + 1) = l.take i ++ [a] := by rw [List.take_add_one, h]; rfl
theorem strs_at {ss : List (List Nat)} {i : Nat} {d : D} (h : (ss.map D.str)[i]? = some d) : ∃ r, ss[i]? = some r ∧ d = .str r := by
  rw [List.getElem?_map] at h
  cases e : ss[i]? with
  | none => rw [e] at h; cases h
  | some r => rw [e] at h; exact ⟨r, rfl, (Option.some.inj h).symm⟩
theorem d__law_best {g : G} : Keeps 3 nm__law_best (t__law_best g) (ds__law_best g) := by
  rintro W xs M Q E - ⟨x, ss, q, n, rfl, hx, hss, hq, qq⟩
  show lS W (t__law_best g W) [some x, some (.str q), some (.int n), none, none, none, none] M _ _
  have hql := okT_len hq
  have hlen := hss.2
  unfold t__law_best
  walk_at "d"
  refine l_lstM ?_
  walk_at "d"
  intro l hl
  walk_at "d"
  refine s_for ?_
  walk_at "d"
  refine ⟨_, hx.up hl, fun i ρ M' => ∃ y4 y5, ρ = [some x, some (.str q), some (.int n), some (.ref l), y4, y5, none] ∧ M' = upM M l (.lst (((ss.take i).filterMap (triF q)).map triD)), ⟨none, none, rfl, rfl⟩, ?_, ?_, ?_⟩
  · rintro i ρ' M' ⟨y4, y5, rfl, rfl⟩
    exact hx.up hl
  · rintro i ρ' M' d hd ⟨y4, y5, rfl, rfl⟩
    obtain ⟨r, hr, rfl⟩ := strs_at hd
    have hrk := hss.1 r (List.mem_of_getElem? hr)
    have hrl := okT_len hrk
    have hm : ((ss.take i).filterMap (triF q)).length ≤ 1000 := by
      have h1 := List.length_filterMap_le (triF q) (ss.take i)
      have h3 : (ss.take i).length ≤ ss.length := by rw [List.length_take]; omega
      omega
    walk_at "d"
    refine ⟨r, q, rfl, by omega, by omega, okT_asc hrk, okT_asc hq, ?_⟩
    rw [lrank_rank, lfold_fold, lfold_fold]
    have et : (ss.take (i + 1)).filterMap (triF q) = (ss.take i).filterMap (triF q) ++ (triF q r).toList := by
      rw [take_succ_get hr, List.filterMap_append]
      cases h : triF q r <;> simp [h]
    walk_at "d"
    cases e : rankF (fold r) (fold q) with
    | none =>
      have e2 : triF q r = none := by
        unfold triF rankP
        rw [e]
        rfl
      refine r_notN (x := .non) rfl ?_
      refine ⟨_, rfl, br_nf' ?_⟩
      walk_at "d"
      refine ⟨_, _, rfl, ?_⟩
      rw [et, e2]
      simp
    | some k =>
      have e2 : triF q r = some (k, fold r, r) := by
        unfold triF rankP
        rw [e]
        rfl
      refine r_notN (x := .int (k : Int)) rfl ?_
      refine ⟨_, rfl, br_nt' ?_⟩
      walk_at "d"
      refine l_bmL ?_
      walk_at "d"
      refine ⟨⟨_, isL_ref upM_same⟩, ?_⟩
      walk_at "d"
      refine ⟨by omega, okT_asc hrk, ?_⟩
      rw [lfold_fold]
      walk_at "d"
      refine m_append upM_same (by rw [List.length_map]; omega) ?_
      refine ⟨_, _, rfl, ?_⟩
      rw [upM_upM, et, e2, List.map_append]
      rfl
  · rintro ρ' M' ⟨y4, y5, rfl, rfl⟩
    rw [List.length_map, List.take_length]
    have hm : (ss.filterMap (triF q)).length ≤ 1000 := Nat.le_trans (List.length_filterMap_le _ _) hlen
    refine s_frz (i := 3) (a := l) rfl upM_same ?_
    rw [deM_upM hl]
    walk_at "d"
    refine l_lcP (wip_tup (wip_cons (wip_name (by decide)) (wip_cons (wip_name (by decide)) (wip_cons (wip_name (by decide)) wip_nil)))) ?_
    walk_at "d"
    refine c_sort isL_lst (triOk _) ?_
    rw [srt_tri]
    have hl2 : (sortT (ss.filterMap (triF q))).length ≤ 1000 := by
      unfold sortT
      rw [List.length_mergeSort]
      exact hm
    refine ⟨_, isL_lst, rowOf, by rw [List.length_map]; omega, fun M' k => isL_lst, ?_, ?_⟩
    · intro d hd M' k
      obtain ⟨t, ht, rfl⟩ := List.mem_map.mp hd
      unfold triD
      walk_at "d"
      rfl
    · rw [filterMap_row]
      walk_at "d"
      refine sl_L isL_lst ?_
      rw [cut_to, ← List.map_take]
      exact qq
/-! ### any order of the rows -/
theorem cps_S (a : List Nat) : (S a).cps.toList = a := by simp [SX.S]
theorem leT_anti {a b : Tri} (h1 : leT a b = true) (h2 : leT b a = true) : a = b := by
  have e := leD_toks h1 h2
  obtain ⟨i, x, y⟩ := a
  obtain ⟨j, u, v⟩ := b
  simp only [triD, toPy, toPys, PySem.W.keyToks, PySem.W.keyToksAll, cps_S, List.cons_append, List.nil_append, List.cons.injEq, Sum.inl.injEq, Sum.inr.injEq, true_and, and_true] at e
  obtain ⟨e1, e2, e3⟩ := e
  have : i = j := by omega
  rw [this, e2, e3]
theorem sortT_perm {a b : List Tri} (p : a.Perm b) : sortT a = sortT b := sort_perm (le := leT) (fun a b c => leD_trans _ _ _) (fun a b => leD_total _ _) p fun a b _ _ => leT_anti
theorem allBest_perm {a b : List (List Nat)} (q : List Nat) (p : a.Perm b) : allBest a q = allBest b q := by
  unfold allBest
  rw [sortT_perm (p.filterMap _)]
theorem bestF_perm {a b : List (List Nat)} (q : List Nat) (n : Nat) (p : a.Perm b) : bestF a q n = bestF b q n := by
  unfold bestF
  rw [allBest_perm q p]
theorem allBest_len (ss : List (List Nat)) (q : List Nat) : (allBest ss q).length ≤ ss.length := by
  unfold allBest sortT
  rw [List.length_map, List.length_mergeSort]
  exact List.length_filterMap_le _ _
theorem allBest_mem {ss : List (List Nat)} {q r : List Nat} (h : r ∈ allBest ss q) : r ∈ ss := by
  unfold allBest sortT at h
  obtain ⟨t, ht, rfl⟩ := List.mem_map.mp h
  obtain ⟨s, hs, e⟩ := List.mem_filterMap.mp (List.mem_mergeSort.mp ht)
  unfold triF at e
  cases hr : rankP s q with
  | none => rw [hr] at e; cases e
  | some k =>
    rw [hr] at e
    have e' : (k, fold s, s) = t := Option.some.inj e
    rw [← e']
    exact hs
theorem bestF_mem {ss : List (List Nat)} {q r : List Nat} {n : Nat} (h : r ∈ bestF ss q n) : r ∈ ss := allBest_mem (List.mem_of_mem_take h)


/-! ### helpers -/
theorem rowsOk_nil : rowsOk [] := ⟨fun s h => absurd h (by simp), by simp⟩
theorem ok_ref (w : Xw) : okD (refD w) = true := by cases w <;> decide +kernel
theorem rng_at {lo : Int} {n i : Nat} {d : D} (h : (rngD lo n)[i]? = some d) : i < n ∧ d = .int (lo + (i : Int)) := by
  have h1 := (List.getElem?_eq_some_iff.mp h).1
  unfold rngD at h h1
  rw [List.length_map, List.length_range] at h1
  rw [List.getElem?_map, List.getElem?_range h1] at h
  exact ⟨h1, (Option.some.inj h).symm⟩
theorem rng_len (lo : Int) (n : Nat) : (rngD lo n).length = n := by
  unfold rngD
  rw [List.length_map, List.length_range]
theorem Twn.up {M : Mh} {t b : Addr} {n : Nat} {c : Cell} (h : Twn M t n) (hb : b ≠ t) : Twn (upM M b c) t n := by
  obtain ⟨zs, e, hl⟩ := h
  exact ⟨zs, by rw [upM_ne hb.symm]; exact e, hl⟩
theorem IsSt.tw {g : G} {M M' : Mh} {a r t : Addr} {ss : List (List Nat)} {n : Nat} (h : IsSt g M a r ss) (w : Tw M t n M') (hr : r ≠ t) : IsSt g M' a r ss := by
  have ha : a ≠ t := fun z => by
    obtain ⟨_, zs, e⟩ := w
    rw [← z, h.ob] at e
    cases e
  exact ⟨by rw [w.ne ha]; exact h.ob, by rw [w.ne hr]; exact h.rs⟩
theorem IsSt.up {g : G} {M : Mh} {a r b : Addr} {ss : List (List Nat)} {c : Cell} (h : IsSt g M a r ss) (ha : a ≠ b) (hr : r ≠ b) : IsSt g (upM M b c) a r ss := ⟨by rw [upM_ne ha]; exact h.ob, by rw [upM_ne hr]; exact h.rs⟩
theorem ne_cell {M : Mh} {a b : Addr} {c : Cell} (h : M a = some c) (hb : M b = none) : a ≠ b := fun z => by
  rw [z, hb] at h
  cases h
theorem ne_cell' {M : Mh} {a b C : Addr} {ns : List Str} {ds es : List D} (h : M a = some (.ins C ns ds)) (hb : M b = some (.lst es)) : a ≠ b := fun z => by
  rw [z, hb] at h
  cases h
theorem erase_filter {ss : List (List Nat)} (h : ss.Nodup) (x : List Nat) : ss.erase x = ss.filter fun s => decide (s ≠ x) := by
  induction ss with
  | nil => rfl
  | cons s ss ih =>
    have h1 := List.nodup_cons.mp h
    rw [List.erase_cons, List.filter_cons]
    by_cases e : s = x
    · subst e
      rw [if_pos (beq_self_eq_true s), if_neg (by simp)]
      refine (List.filter_eq_self.mpr fun a ha => ?_).symm
      exact decide_eq_true fun z => h1.1 (by rw [← z]; exact ha)
    · rw [if_neg (by simpa using e), if_pos (decide_eq_true e), ih h1.2]
def keepD (x : List Nat) : D → Option D
  | .str s => if s = x then none else some (.str s)
  | _ => none
theorem keepD_yes {x s : List Nat} (h : s ≠ x) : keepD x (.str s) = some (.str s) := if_neg h
theorem keepD_no {x : List Nat} : keepD x (.str x) = none := if_pos rfl
theorem filterMap_keep (x : List Nat) : ∀ ss : List (List Nat), (ss.map D.str).filterMap (keepD x) = (ss.filter fun s => decide (s ≠ x)).map D.str
  | [] => rfl
  | s :: ss => by
    have ih := filterMap_keep x ss
    rw [List.map_cons, List.filterMap_cons, List.filter_cons]
    by_cases h : s = x
    · subst h
      rw [keepD_no, if_neg (by simp)]
      exact ih
    · rw [keepD_yes h, if_pos (decide_eq_true h), List.map_cons]
      exact congrArg (_ :: ·) ih
def dueD : Option Xw → D
  | none => .non
  | some w => refD w
theorem ok_due (o : Option Xw) : okD (dueD o) = true := by
  cases o with
  | none => rfl
  | some w => exact ok_ref w
theorem ok_strs {ss : List (List Nat)} (h : ∀ s ∈ ss, okT 20 s = true) : okD (.lst (ss.map D.str)) = true := (OkN.strs (n := 0) fun s hs c hc => by have := okC_asc (okT_all (h s hs) c hc); omega).ok
theorem ok_ansD {ss : List (List Nat)} (h : ∀ s ∈ ss, okT 20 s = true) (q : List Nat) (m : Nat) : okD (ansD ss q m) = true :=
  (OkN.tup (n := 1) (OkN.cons (OkN.strs (n := 0) fun s hs c hc => by have := okC_asc (okT_all (h s (bestF_mem hs)) c hc); omega) (OkN.cons OkN.bl OkN.nil))).ok
theorem upM_comm {M : Mh} {a b : Addr} {x y : Cell} (h : a ≠ b) : upM (upM M a x) b y = upM (upM M b y) a x := by
  funext c
  by_cases e : c = a
  · subst e
    rw [upM_ne h, upM_same, upM_same]
  · rw [upM_ne e]
    by_cases e2 : c = b
    · subst e2
      rw [upM_same, upM_same]
    · rw [upM_ne e2, upM_ne e2, upM_ne e]
theorem Twn.fr {M : Mh} {t a : Addr} {n : Nat} (h : Twn M t n) (ha : M a = none) : a ≠ t := fun z => by
  obtain ⟨zs, e, _⟩ := h
  rw [z, e] at ha
  cases ha
/-- the town's step under a new cell -/
theorem Tw.under {M M' : Mh} {t a : Addr} {n : Nat} {c : Cell} (h : Tw (upM M a c) t n M') (ha : a ≠ t) : ∃ M1, Tw M t n M1 ∧ M' = upM M1 a c := by
  obtain ⟨⟨zs, rfl, hl⟩, ys, hy⟩ := h
  rw [upM_ne ha.symm] at hy
  exact ⟨upM M t (.lst zs), ⟨⟨zs, rfl, hl⟩, ys, hy⟩, upM_comm ha⟩
theorem up_keep {M : Mh} {a b : Addr} {c x : Cell} (h : M a = some x) (hb : M b = none) : upM M b c a = some x := by
  rw [upM_ne (ne_cell h hb)]
  exact h
theorem Twn.keep {M : Mh} {t b : Addr} {n : Nat} {c : Cell} (h : Twn M t n) (hb : M b = none) : Twn (upM M b c) t n := h.up (h.fr hb)
theorem mem_map' {α : Type} {f : α → D} {d : D} {l : List α} (h : d ∈ l.map f) : ∃ e ∈ l, d = f e := by
  obtain ⟨e, he, q⟩ := List.mem_map.mp h
  exact ⟨e, he, q.symm⟩
theorem upM_swap2 {M : Mh} {a t : Addr} {x y z : Cell} (h : a ≠ t) : upM (upM (upM M a x) t z) a y = upM (upM M t z) a y := by
  funext b
  by_cases e : b = a
  · rw [e, upM_same, upM_same]
  · rw [upM_ne e, upM_ne e]
    by_cases e2 : b = t
    · rw [e2, upM_same, upM_same]
    · rw [upM_ne e2, upM_ne e2, upM_ne e]


/-! ### plain laws of texts and ranks -/
theorem hasT_ex {m w : List Nat} : hasT w m = true ↔ ∃ a b, m = a ++ w ++ b := by
  rw [hasT_iff]
  constructor
  · rintro ⟨k, h⟩
    unfold isAt at h
    rw [Bool.and_eq_true] at h
    have h2 : (m.drop k).take w.length = w := eq_of_beq h.2
    refine ⟨m.take k, (m.drop k).drop w.length, ?_⟩
    conv => lhs; rw [← List.take_append_drop k m, ← List.take_append_drop w.length (m.drop k), h2]
    rw [List.append_assoc]
  · rintro ⟨a, b, rfl⟩
    refine ⟨a.length, ?_⟩
    unfold isAt
    rw [Bool.and_eq_true]
    refine ⟨decide_eq_true (by rw [List.length_append, List.length_append]; omega), ?_⟩
    rw [List.append_assoc, List.drop_left, List.take_left]
    exact beq_self_eq_true _
theorem hasT_self (w : List Nat) : hasT w w = true := hasT_ex.mpr ⟨[], [], by simp⟩
theorem hasT_trans {a b c : List Nat} (h : hasT a b = true) (h2 : hasT b c = true) : hasT a c = true := by
  obtain ⟨x, y, rfl⟩ := hasT_ex.mp h
  obtain ⟨u, v, rfl⟩ := hasT_ex.mp h2
  exact hasT_ex.mpr ⟨u ++ x, y ++ v, by simp⟩
theorem hasT_len {a b : List Nat} (h : hasT a b = true) : a.length ≤ b.length := by
  obtain ⟨x, y, rfl⟩ := hasT_ex.mp h
  rw [List.length_append, List.length_append]
  omega
theorem hasT_eq {a b : List Nat} (h : hasT a b = true) (hl : b.length ≤ a.length) : a = b := by
  obtain ⟨x, y, rfl⟩ := hasT_ex.mp h
  rw [List.length_append, List.length_append] at hl
  have hx : x = [] := List.length_eq_zero_iff.mp (by omega)
  have hy : y = [] := List.length_eq_zero_iff.mp (by omega)
  subst hx
  subst hy
  simp
theorem rank_none {m w : List Nat} : rankF m w = none ↔ hasT w m = false := by
  unfold rankF
  constructor
  · intro h
    by_cases h1 : m = w
    · rw [if_pos h1] at h
      cases h
    rw [if_neg h1] at h
    by_cases h2 : isAt w m 0 = true
    · rw [if_pos h2] at h
      cases h
    rw [if_neg h2] at h
    by_cases h3 : hasT (32 :: w) m = true
    · rw [if_pos h3] at h
      cases h
    rw [if_neg h3] at h
    by_cases h4 : hasT w m = true
    · rw [if_pos h4] at h
      cases h
    · simpa using h4
  · intro h
    have h1 : ¬ m = w := fun z => by
      rw [z, hasT_self] at h
      cases h
    have h2 : ¬ isAt w m 0 = true := fun z => by
      rw [hasT_iff.mpr ⟨0, z⟩] at h
      cases h
    have h3 : ¬ hasT (32 :: w) m = true := fun z => by
      have : hasT w m = true := hasT_trans (hasT_ex.mpr ⟨[32], [], by simp⟩) z
      rw [this] at h
      cases h
    rw [if_neg h1, if_neg h2, if_neg h3, if_neg (by rw [h]; exact Bool.false_ne_true)]
/-! a text folded is folded already -/
def noDbl (t : List Nat) : Prop := ∀ i : Nat, t[i]? = some 32 → t[i + 1]? = some 32 → False
structure nf0 (t : List Nat) : Prop where
  hd : t.head? ≠ some 32
  db : noDbl t
  lo : ∀ c ∈ t, lo1 c = c
theorem lo1_lo1 (c : Nat) : lo1 (lo1 c) = lo1 c := by
  by_cases h : 65 ≤ c ∧ c ≤ 90
  · have e : lo1 c = c + 32 := if_pos h
    rw [e]
    exact if_neg (by omega)
  · have e : lo1 c = c := if_neg h
    rw [e, e]
theorem snoc_ne {t : List Nat} {x : Nat} (h : nf0 t) (hx : x ≠ 32) (hl : lo1 x = x) : nf0 (t ++ [x]) where
  hd := by
    cases t with
    | nil => simpa using hx
    | cons a t => exact h.hd
  db := fun i h1 h2 => by
    have hlt := (List.getElem?_eq_some_iff.mp h2).1
    rw [List.length_append] at hlt
    simp only [List.length_cons, List.length_nil] at hlt
    by_cases z : i + 1 < t.length
    · rw [List.getElem?_append_left (by omega)] at h1 h2
      exact h.db i h1 h2
    · rw [List.getElem?_append_right (by omega), show i + 1 - t.length = 0 by omega] at h2
      exact hx (Option.some.inj h2)
  lo := fun c hc => by
    rcases List.mem_append.mp hc with hc | hc
    · exact h.lo c hc
    · rw [List.mem_singleton.mp hc]
      exact hl
theorem snoc_sp {t : List Nat} (h : nf0 t) (h1 : t ≠ []) (h2 : t.getLast? ≠ some 32) : nf0 (t ++ [32]) where
  hd := by
    cases t with
    | nil => exact absurd rfl h1
    | cons a t => exact h.hd
  db := fun i e1 e2 => by
    have hlt := (List.getElem?_eq_some_iff.mp e2).1
    rw [List.length_append] at hlt
    simp only [List.length_cons, List.length_nil] at hlt
    rw [List.getElem?_append_left (by omega)] at e1
    by_cases z : i + 1 < t.length
    · rw [List.getElem?_append_left (by omega)] at e2
      exact h.db i e1 e2
    · refine h2 ?_
      rw [List.getLast?_eq_getElem?, show t.length - 1 = i by omega]
      exact e1
  lo := fun c hc => by
    rcases List.mem_append.mp hc with hc | hc
    · exact h.lo c hc
    · rw [List.mem_singleton.mp hc]
      rfl
theorem lstep_nf {t : List Nat} (c : Nat) (h : nf0 t) : nf0 (lstep t c) := by
  unfold lstep
  by_cases h1 : c ≠ 32
  · rw [if_pos h1]
    exact snoc_ne h (fun z => h1 (lo1_32.mp z)) (lo1_lo1 c)
  · rw [if_neg h1]
    by_cases h2 : t ≠ [] ∧ t.getLast? ≠ some 32
    · rw [if_pos h2]
      exact snoc_sp h h2.1 h2.2
    · rw [if_neg h2]
      exact h
theorem foldl_nf : ∀ (s t : List Nat), nf0 t → nf0 (s.foldl lstep t)
  | [], _, h => h
  | c :: s, t, h => foldl_nf s _ (lstep_nf c h)
theorem nf0_nil : nf0 [] := ⟨by simp, fun i h => by simp at h, fun c h => absurd h (by simp)⟩
theorem nf0_left {a b : List Nat} (h : nf0 (a ++ b)) : nf0 a where
  hd := by
    cases a with
    | nil => simp
    | cons x a => exact h.hd
  db := fun i h1 h2 => by
    have hlt := (List.getElem?_eq_some_iff.mp h2).1
    exact h.db i (by rw [List.getElem?_append_left (by omega)]; exact h1) (by rw [List.getElem?_append_left hlt]; exact h2)
  lo := fun c hc => h.lo c (List.mem_append_left _ hc)
/-- as folding leaves it -/
structure nf (t : List Nat) : Prop extends nf0 t where
  ls : t.getLast? ≠ some 32
theorem lfold_nf (s : List Nat) : nf (lfold s) := by
  have h := foldl_nf s [] nf0_nil
  unfold lfold lfin
  generalize s.foldl lstep [] = t at h
  by_cases z : t.getLast? = some 32
  · rw [if_pos z]
    obtain ⟨a, rfl⟩ := List.getLast?_eq_some_iff.mp z
    rw [List.dropLast_concat]
    refine ⟨nf0_left h, fun e => ?_⟩
    obtain ⟨b, rfl⟩ := List.getLast?_eq_some_iff.mp e
    refine h.db b.length ?_ ?_
    · rw [List.getElem?_append_left (by rw [List.length_append]; simp), List.getElem?_append_right (Nat.le_refl _), Nat.sub_self]
      rfl
    · rw [List.getElem?_append_right (by rw [List.length_append]; simp), List.length_append]
      simp
  · rw [if_neg z]
    exact ⟨h, z⟩
theorem fold_nf (s : List Nat) : nf (fold s) := by
  rw [← lfold_fold]
  exact lfold_nf s
theorem foldl_id : ∀ (n : Nat) (t : List Nat), t.length = n → nf0 t → t.foldl lstep [] = t
  | 0, t, hl, _ => by
    obtain rfl := List.length_eq_zero_iff.mp hl
    rfl
  | n + 1, t, hl, h => by
    obtain ⟨a, c, rfl⟩ : ∃ a c, t = a ++ [c] := ⟨t.dropLast, t.getLast (by intro z; rw [z] at hl; cases hl), (List.dropLast_concat_getLast _).symm⟩
    have ha : a.length = n := by
      rw [List.length_append] at hl
      simp only [List.length_cons, List.length_nil] at hl
      omega
    rw [List.foldl_append, foldl_id n a ha (nf0_left h)]
    show lstep a c = a ++ [c]
    unfold lstep
    by_cases h1 : c ≠ 32
    · rw [if_pos h1, h.lo c (by simp)]
    · have h1 : c = 32 := by simpa using h1
      subst h1
      rw [if_neg (by simp), if_pos]
      refine ⟨fun z => ?_, fun z => ?_⟩
      · subst z
        exact h.hd rfl
      · obtain ⟨b, rfl⟩ := List.getLast?_eq_some_iff.mp z
        refine h.db b.length ?_ ?_
        · rw [List.getElem?_append_left (by rw [List.length_append]; simp), List.getElem?_append_right (Nat.le_refl _), Nat.sub_self]
          rfl
        · rw [List.getElem?_append_right (by rw [List.length_append]; simp), List.length_append]
          simp
theorem fold_id {t : List Nat} (h : nf t) : fold t = t := by
  rw [← lfold_fold]
  unfold lfold lfin
  rw [foldl_id _ t rfl h.tonf0, if_neg h.ls]
theorem fold_fold (s : List Nat) : fold (fold s) = fold s := fold_id (fold_nf s)
theorem lfold_all {P : Nat → Prop} {s : List Nat} (h32 : P 32) (h : ∀ c ∈ s, P (lo1 c)) : ∀ c ∈ fold s, P c := by
  rw [← lfold_fold]
  have k : ∀ (s acc : List Nat), (∀ c ∈ s, P (lo1 c)) → (∀ c ∈ acc, P c) → ∀ c ∈ s.foldl lstep acc, P c := by
    intro s
    induction s with
    | nil => intro acc _ h; exact h
    | cons x s ih =>
      intro acc h h2
      rw [List.foldl_cons]
      refine ih _ (fun c hc => h c (List.mem_cons_of_mem _ hc)) ?_
      unfold lstep
      split
      · intro c hc
        rcases List.mem_append.mp hc with hc | hc
        · exact h2 c hc
        · rw [List.mem_singleton.mp hc]
          exact h x List.mem_cons_self
      · split
        · intro c hc
          rcases List.mem_append.mp hc with hc | hc
          · exact h2 c hc
          · rw [List.mem_singleton.mp hc]
            exact h32
        · exact h2
  have k2 := k s [] h (fun c hc => absurd hc (by simp))
  unfold lfold lfin
  split
  · exact fun c hc => k2 c (List.dropLast_subset _ hc)
  · exact k2
theorem okC_lo1 {c : Nat} (h : okC c = true) : okC (lo1 c) = true := by
  unfold okC at h ⊢
  unfold lo1
  simp only [Bool.and_eq_true, decide_eq_true_eq] at h ⊢
  split
  · omega
  · exact h
theorem fold_ok {m : Nat} {s : List Nat} (h : okT m s = true) : okT m (fold s) = true :=
  okT_of (Nat.le_trans (fold_len' s) (okT_len h)) (lfold_all (P := fun c => okC c = true) rfl fun c hc => okC_lo1 (okT_all h c hc))
/-! ### what is told from less -/
theorem triF_fold {q q' : List Nat} (h : fold q = fold q') : triF q = triF q' := by
  funext r
  unfold triF rankP
  rw [h]
theorem bestF_fold {q q' : List Nat} (h : fold q = fold q') (ss : List (List Nat)) (n : Nat) : bestF ss q n = bestF ss q' n := by
  unfold bestF allBest
  rw [triF_fold h]
theorem allBest_fold {q q' : List Nat} (h : fold q = fold q') (ss : List (List Nat)) : allBest ss q = allBest ss q' := by
  unfold allBest
  rw [triF_fold h]
def fits (q r : List Nat) : Bool := hasT (fold q) (fold r)
theorem tri_some {q r : List Nat} {t : Tri} (h : triF q r = some t) : t.2.2 = r ∧ fits q r = true := by
  unfold triF rankP at h
  cases e : rankF (fold r) (fold q) with
  | none =>
    rw [e] at h
    cases h
  | some k =>
    rw [e] at h
    have h' : (k, fold r, r) = t := Option.some.inj h
    refine ⟨by rw [← h'], ?_⟩
    unfold fits
    cases z : hasT (fold q) (fold r) with
    | true => rfl
    | false =>
      rw [rank_none.mpr z] at e
      cases e
theorem tri_none {q r : List Nat} (h : fits q r = false) : triF q r = none := by
  unfold triF rankP
  rw [rank_none.mpr h]
  rfl
theorem tri_fits {q r : List Nat} (h : fits q r = true) : ∃ t, triF q r = some t ∧ t.2.2 = r := by
  cases e : triF q r with
  | none =>
    unfold triF rankP at e
    cases e2 : rankF (fold r) (fold q) with
    | none =>
      have := rank_none.mp e2
      unfold fits at h
      rw [this] at h
      cases h
    | some k =>
      rw [e2] at e
      cases e
  | some t => exact ⟨t, rfl, (tri_some e).1⟩
theorem filterMap_rows (q : List Nat) : ∀ ss : List (List Nat), (ss.filterMap (triF q)).map (·.2.2) = ss.filter (fits q)
  | [] => rfl
  | s :: ss => by
    have ih := filterMap_rows q ss
    rw [List.filterMap_cons, List.filter_cons]
    cases h : fits q s with
    | false =>
      rw [tri_none h]
      exact ih
    | true =>
      obtain ⟨t, e, h2⟩ := tri_fits h
      rw [e, if_pos rfl]
      show t.2.2 :: _ = _
      rw [h2, ih]
theorem allBest_rows (ss : List (List Nat)) (q : List Nat) : (allBest ss q).Perm (ss.filter (fits q)) := by
  unfold allBest
  rw [← filterMap_rows]
  exact (List.mergeSort_perm _ _).map _
/-- of rows among which are all that fit, the best are the same -/
theorem allBest_less {ss ss' : List (List Nat)} {q q' : List Nat} (h : ss'.Perm (ss.filter (fits q'))) (hf : ∀ r, fits q r = true → fits q' r = true) : allBest ss' q = allBest ss q := by
  rw [allBest_perm q h]
  unfold allBest
  have : (ss.filter (fits q')).filterMap (triF q) = ss.filterMap (triF q) := by
    clear h
    induction ss with
    | nil => rfl
    | cons s ss ih =>
      rw [List.filter_cons, List.filterMap_cons]
      cases h : fits q' s with
      | true =>
        rw [if_pos rfl, List.filterMap_cons, ih]
      | false =>
        have h2 : fits q s = false := by
          cases z : fits q s with
          | false => rfl
          | true =>
            rw [hf s z] at h
            cases h
        rw [tri_none h2]
        exact ih
  rw [this]
/-- the best of the best are the best -/
theorem best_best (ss : List (List Nat)) (q : List Nat) (n : Nat) : bestF (bestF ss q n) q n = bestF ss q n := by
  have key : ∀ ts : List Tri, (∀ t ∈ ts, triF q t.2.2 = some t) → (ts.map (·.2.2)).filterMap (triF q) = ts := by
    intro ts
    induction ts with
    | nil => intro _; rfl
    | cons t ts ih =>
      intro h
      rw [List.map_cons, List.filterMap_cons, h t List.mem_cons_self]
      show t :: _ = _
      rw [ih fun t m => h t (List.mem_cons_of_mem _ m)]
  have hT : ∀ t ∈ sortT (ss.filterMap (triF q)), triF q t.2.2 = some t := fun t m => by
    obtain ⟨r, hr, e⟩ := List.mem_filterMap.mp (List.mem_mergeSort.mp m)
    rw [(tri_some e).1]
    exact e
  have e1 : bestF ss q n = ((sortT (ss.filterMap (triF q))).take n).map (·.2.2) := by
    unfold bestF allBest
    rw [List.map_take]
  have hs : sortT ((sortT (ss.filterMap (triF q))).take n) = (sortT (ss.filterMap (triF q))).take n := by
    refine List.mergeSort_of_pairwise (List.Pairwise.take ?_)
    exact List.pairwise_mergeSort (le := leT) (fun a b c => leD_trans _ _ _) (fun a b => leD_total _ _) _
  show (allBest (bestF ss q n) q).take n = bestF ss q n
  rw [e1]
  unfold allBest
  rw [key _ fun t m => hT t (List.mem_of_mem_take m), hs, ← List.map_take, List.take_take, Nat.min_self]


/-! ### what must be typed, what may come next: what the functions compute -/
def optS : Option (List Nat) → D
  | none => .non
  | some s => .str s
/-- the beginnings of a text, up to twelve signs -/
def begs (w : List Nat) : List (List Nat) := (List.range (min w.length 12)).map fun i => w.take (i + 1)
def needF (ss : List (List Nat)) (r : List Nat) (n : Nat) : Option (List Nat) := (begs (fold r)).find? fun p => decide (r ∈ bestF ss p n)
def SIGNS : List Nat := [33, 34, 35, 36, 38, 39, 40, 41, 42, 43, 44, 45, 46, 47, 48, 49, 50, 51, 52, 53, 54, 55, 56, 57, 58, 59, 60, 61, 62, 63, 64, 91, 92, 93, 94, 95, 96, 97, 98, 99, 100, 101, 102, 103, 104, 105, 106, 107, 108, 109, 110, 111, 112, 113, 114, 115, 116, 117, 118, 119, 120, 121, 122, 123, 124, 125, 126]
def fitN (ss : List (List Nat)) (q : List Nat) : Nat := (ss.filter fun r => (rankP r q).isSome).length
def nextD (ss : List (List Nat)) (q : List Nat) (c : Nat) : List D := if 0 < fitN ss (q ++ [c]) then [.tup [.str [c], .int (fitN ss (q ++ [c]) : Int)]] else []
def nextsF (ss : List (List Nat)) (q : List Nat) : List D := (SIGNS.map (nextD ss q)).flatten
/-- the rows that are folded as the k-th is -/
def grpF (ss : List (List Nat)) (k : Nat) : List (List Nat) := ss.filter fun r => decide (some (fold r) = (ss[k]?).map fold)
def grpD (ss : List (List Nat)) (k : Nat) : List D := if ((ss[k]?).map fold ∉ (ss.take k).map fun r => some (fold r)) ∧ 1 < (grpF ss k).length then [.lst ((grpF ss k).map D.str)] else []
def alikeF (ss : List (List Nat)) : List D := ((List.range ss.length).map (grpD ss)).flatten
def rankN (ss : List (List Nat)) (q : List Nat) (k : Nat) : Nat := ss.countP fun r => decide (rankP r q = some k)
def byF (ss : List (List Nat)) (q : List Nat) : List D := (List.range 4).map fun k => D.int (rankN ss q k : Int)
def lenD : Option (List Nat) → D
  | none => .non
  | some s => .int (s.length : Int)
def all20 (ss : List (List Nat)) : Prop := ∀ s ∈ ss, okT 20 s = true
instance (ss : List (List Nat)) : Decidable (all20 ss) := inferInstanceAs (Decidable (∀ s ∈ ss, okT 20 s = true))
/-- rows handed in, good or not -/
structure RwIn (M : Mh) (x : D) (ss : List (List Nat)) : Prop where
  is : isL M x (ss.map D.str)
  len : ∀ s ∈ ss, s.length ≤ 1000
  many : ss.length ≤ 1000
theorem RwIn.ok {M : Mh} {x : D} {ss : List (List Nat)} (h : RwIn M x ss) (a : all20 ss) : rowsOk ss := ⟨a, h.many⟩
theorem RwIn.kn {M M' : Mh} {x : D} {ss : List (List Nat)} (h : RwIn M x ss) (k : KnM M M') : RwIn M' x ss := ⟨h.is.kn k, h.len, h.many⟩
/-! the promises -/
def ds_look_rows (g : G) : DSp := fun xs M Q E => ∃ (x : D) (ss : List (List Nat)), xs = [x] ∧ RwIn M x ss ∧ (all20 ss → Q .non M) ∧ (¬ all20 ss → E g.cT M)
abbrev sp_look_rows (g : G) : Sp := lift 1 (ds_look_rows g)
def ds_needed (g : G) : DSp := fun xs M Q E => ∃ (x : D) (ss : List (List Nat)) (r : List Nat) (m : Int), xs = [x, .str r, .int m] ∧ RwIn M x ss ∧ r.length ≤ 1000 ∧
  ((1 ≤ m ∧ m ≤ 6) → all20 ss → okT 20 r = true → Q (optS (needF ss r m.toNat)) M) ∧ (¬ (1 ≤ m ∧ m ≤ 6) → E g.cN M) ∧ ((1 ≤ m ∧ m ≤ 6) → ¬ (all20 ss ∧ okT 20 r = true) → E g.cT M)
abbrev sp_needed (g : G) : Sp := lift 3 (ds_needed g)
def ds_nexts (g : G) : DSp := fun xs M Q E => ∃ (x : D) (ss : List (List Nat)) (q : List Nat), xs = [x, .str q] ∧ RwIn M x ss ∧ q.length ≤ 1000 ∧
  (all20 ss → okT 11 q = true → ∀ a, M a = none → Q (.ref a) (upM M a (.lst (nextsF ss q)))) ∧ (¬ (all20 ss ∧ okT 11 q = true) → E g.cT M)
abbrev sp_nexts (g : G) : Sp := lift 2 (ds_nexts g)
def ds_alike (g : G) : DSp := fun xs M Q E => ∃ (x : D) (ss : List (List Nat)), xs = [x] ∧ RwIn M x ss ∧ (all20 ss → ∀ a, M a = none → Q (.ref a) (upM M a (.lst (alikeF ss)))) ∧ (¬ all20 ss → E g.cT M)
abbrev sp_alike (g : G) : Sp := lift 1 (ds_alike g)
def ds_by_rank (g : G) : DSp := fun xs M Q E => ∃ (x : D) (ss : List (List Nat)) (q : List Nat), xs = [x, .str q] ∧ RwIn M x ss ∧ q.length ≤ 1000 ∧
  (all20 ss → okT 12 q = true → Q (.tup (byF ss q)) M) ∧ (¬ (all20 ss ∧ okT 12 q = true) → E g.cT M)
abbrev sp_by_rank (g : G) : Sp := lift 2 (ds_by_rank g)
def ds_fewest_keys (g : G) : DSp := fun xs M Q E => ∃ (x : D) (ss : List (List Nat)) (m : Int), xs = [x, .int m] ∧ RwIn M x ss ∧
  ((1 ≤ m ∧ m ≤ 6) → all20 ss → Q (.lst (ss.map fun r => lenD (needF ss r m.toNat))) M) ∧ (¬ (1 ≤ m ∧ m ≤ 6) → E g.cN M) ∧ ((1 ≤ m ∧ m ≤ 6) → ¬ all20 ss → E g.cT M)
abbrev sp_fewest_keys (g : G) : Sp := lift 2 (ds_fewest_keys g)
abbrev nm_look_rows : List Str := ["rows", "row"]
def t_look_rows (g : G) (W : WX) : TS := (tFor (iList g.K (tVar 0)) (gName 1) (tDrop (tCallS (sp_look_text g) (WE W) (tCons (tVar 1) (tCons (tC (.int 20)) tNil)))))
abbrev nm_needed : List Str := ["rows", "row", "many", "whole", "size"]
def t_needed (g : G) (W : WX) : TS := (tSeq (tDrop (tCallS (sp_look_many g) (WE W) (tCons (tVar 2) tNil))) (tSeq (tDrop (tCallS (sp_look_rows g) (WE W) (tCons (tVar 0) tNil))) (tSeq (tDrop (tCallS (sp_look_text g) (WE W) (tCons (tVar 1) (tCons (tC (.int 20)) tNil)))) (tSeq (tAsg (tCallS (sp_folded g) (WE W) (tCons (tVar 1) tNil)) (gName 3)) (tSeq (tFor (iRng2 (tCons (tC (.int 1)) (tCons (tOp (rAddA g.K) (tCB (rMin2) (tCons (tCB (rLenA g.K) (tCons (tVar 3) tNil)) (tCons (tC (.int 12)) tNil))) (tC (.int 1))) tNil))) (gName 4) (tIfS (tTest (tOp (rInA g.K) (tVar 1) (tCallS (sp_best g) (WE W) (tCons (tVar 0) (tCons (tSl (rSlA g.K) (tVar 3) tNoPart (tPart (tVar 4))) (tCons (tVar 2) tNil)))))) (tRet (tSl (rSlA g.K) (tVar 3) tNoPart (tPart (tVar 4)))) tNext)) (tRet (tC .non)))))))
abbrev nm_nexts : List Str := ["rows", "query", "found", "sign", "many", "row"]
def t_nexts (g : G) (W : WX) : TS := (tSeq (tDrop (tCallS (sp_look_text g) (WE W) (tCons (tVar 1) (tCons (tOp (rSubA) (tC (.int 12)) (tC (.int 1))) tNil)))) (tSeq (tDrop (tCallS (sp_look_rows g) (WE W) (tCons (tVar 0) tNil))) (tSeq (tAsg (tLst tNil) (gName 2)) (tSeq (tFor (iStr (tC (.str (S [33, 34, 35, 36, 38, 39, 40, 41, 42, 43, 44, 45, 46, 47, 48, 49, 50, 51, 52, 53, 54, 55, 56, 57, 58, 59, 60, 61, 62, 63, 64, 91, 92, 93, 94, 95, 96, 97, 98, 99, 100, 101, 102, 103, 104, 105, 106, 107, 108, 109, 110, 111, 112, 113, 114, 115, 116, 117, 118, 119, 120, 121, 122, 123, 124, 125, 126])))) (gName 3) (tSeq (tAsg (tCB (rLenA g.K) (tCons (tLc (iList g.K (tVar 0)) (gName 5) (tTest (tOp (rNotNo) (tCallS (sp_rank g) (WE W0) (tCons (tVar 5) (tCons (tOp (rAddA g.K) (tVar 1) (tVar 3)) tNil))) (tC .non))) (tVar 5) [5]) tNil)) (gName 4)) (tIfS (tTest (tOp (rGtA) (tVar 4) (tC (.int 0)))) (tDrop (tBM g.K "list" (rAppend) (tVar 2) (tCons (tTup (tCons (tVar 3) (tCons (tVar 4) tNil))) tNil))) tNext))) (tRet (tVar 2))))))
abbrev nm_alike : List Str := ["rows", "names", "found", "k", "row", "j"]
def t_alike (g : G) (W : WX) : TS := (tSeq (tDrop (tCallS (sp_look_rows g) (WE W) (tCons (tVar 0) tNil))) (tSeq (tAsg (tLc (iList g.K (tVar 0)) (gName 4) tYes (tCallS (sp_folded g) (WE W0) (tCons (tVar 4) tNil)) [4]) (gName 1)) (tSeq (tAsg (tLst tNil) (gName 2)) (tSeq (tFor (iRng1 (tCons (tCB (rLenA g.K) (tCons (tVar 0) tNil)) tNil)) (gName 3) (tIfS (tAnd (tTest (tOp (rNinA g.K) (tOp (rIx g.K) (tVar 1) (tVar 3)) (tSl (rSlA g.K) (tVar 1) tNoPart (tPart (tVar 3))))) (tTest (tOp (rGtA) (tBM g.K "list" (rCntF g.K) (tVar 1) (tCons (tOp (rIx g.K) (tVar 1) (tVar 3)) tNil)) (tC (.int 1))))) (tDrop (tBM g.K "list" (rAppend) (tVar 2) (tCons (tLc (iRng1 (tCons (tCB (rLenA g.K) (tCons (tVar 0) tNil)) tNil)) (gName 5) (tTest (tOp (rEqA g.K) (tOp (rIx g.K) (tVar 1) (tVar 5)) (tOp (rIx g.K) (tVar 1) (tVar 3)))) (tOp (rIx g.K) (tVar 0) (tVar 5)) [5]) tNil))) tNext)) (tRet (tVar 2))))))
abbrev nm_by_rank : List Str := ["rows", "query", "some", "row", "number"]
def t_by_rank (g : G) (W : WX) : TS := (tSeq (tDrop (tCallS (sp_look_text g) (WE W) (tCons (tVar 1) (tCons (tC (.int 12)) tNil)))) (tSeq (tDrop (tCallS (sp_look_rows g) (WE W) (tCons (tVar 0) tNil))) (tSeq (tAsg (tLc (iList g.K (tVar 0)) (gName 3) tYes (tCallS (sp_rank g) (WE W0) (tCons (tVar 3) (tCons (tVar 1) tNil))) [3]) (gName 2)) (tRet (tCB (rTupA g.K) (tCons (tLc (iRng1 (tCons (tC (.int 4)) tNil)) (gName 4) tYes (tBM g.K "list" (rCntF g.K) (tVar 2) (tCons (tVar 4) tNil)) [4]) tNil))))))
abbrev nm_fewest_keys : List Str := ["rows", "many", "some", "row", "one"]
def t_fewest_keys (g : G) (W : WX) : TS := (tSeq (tDrop (tCallS (sp_look_many g) (WE W) (tCons (tVar 1) tNil))) (tSeq (tDrop (tCallS (sp_look_rows g) (WE W) (tCons (tVar 0) tNil))) (tSeq (tAsg (tLc (iList g.K (tVar 0)) (gName 3) tYes (tCallS (sp_needed g) (WE W0) (tCons (tVar 0) (tCons (tVar 3) (tCons (tVar 1) tNil)))) [3]) (gName 2)) (tRet (tLc (iList g.K (tVar 2)) (gName 4) tYes (tIf (tTest (tOp (rIsNo) (tVar 4) (tC .non))) (tC .non) (tCB (rLenA g.K) (tCons (tVar 4) tNil))) [4])))))


theorem knm_up {M : Mh} {a : Addr} {c : Cell} (h : M a = none) : KnM M (upM M a c) := fun b d hb => by
  rw [upM_ne (fun z => by rw [z, h] at hb; cases hb)]
  exact hb
theorem d_look_rows {g : G} : Keeps 1 nm_look_rows (t_look_rows g) (ds_look_rows g) := by
  rintro W xs M Q E - ⟨x, ss, rfl, hx, q1, q2⟩
  show lS W (t_look_rows g W) [some x, none] M _ _
  unfold t_look_rows
  refine s_for ?_
  walk_at "d"
  refine ⟨_, hx.is, fun i ρ M' => M' = M ∧ (∃ y, ρ = [some x, y]) ∧ ∀ s ∈ ss.take i, okT 20 s = true, ⟨rfl, ⟨_, rfl⟩, by simp⟩, ?_, ?_, ?_⟩
  · rintro i ρ' M' ⟨rfl, _⟩
    exact hx.is
  · rintro i ρ' M' d hd ⟨rfl, ⟨y, rfl⟩, h⟩
    rw [List.getElem?_map] at hd
    cases hs : ss[i]? with
    | none => rw [hs] at hd; cases hd
    | some s =>
      rw [hs] at hd
      obtain rfl : D.str s = d := Option.some.inj hd
      have hm := List.mem_of_getElem? hs
      walk_at "d"
      refine ⟨s, 20, rfl, hx.len s hm, fun ok => ?_, fun no => q2 fun a => ?_⟩
      · walk_at "d"
        intro s' hs'
        rw [List.take_add_one, hs] at hs'
        rcases List.mem_append.mp hs' with z | z
        · exact h s' z
        · rw [List.mem_singleton.mp z]
          exact ok
      · rw [a s hm] at no
        cases no
  · rintro ρ' M' ⟨rfl, ⟨y, rfl⟩, h⟩
    rw [List.length_map, List.take_length] at h
    exact q1 h
theorem begs_get {w : List Nat} {i : Nat} (h : i < min w.length 12) : (begs w)[i]? = some (w.take (i + 1)) := by
  unfold begs
  rw [List.getElem?_map, List.getElem?_range h] <;> rfl
theorem begs_len (w : List Nat) : (begs w).length = min w.length 12 := by
  unfold begs
  rw [List.length_map, List.length_range]
theorem beg_ok {m : Nat} {w : List Nat} (h : okT m w = true) {i : Nat} (hi : i < 12) : okT 12 (w.take (i + 1)) = true :=
  okT_of (by rw [List.length_take]; omega) fun c hc => okT_all h c (List.mem_of_mem_take hc)
theorem find_at {α : Type} {p : α → Bool} : ∀ {l : List α} {i : Nat} {x : α}, l[i]? = some x → p x = true → (∀ (j : Nat) (y : α), j < i → l[j]? = some y → p y = false) → l.find? p = some x
  | [], i, x, h, _, _ => by simp at h
  | a :: l, 0, x, h, hp, _ => by
    obtain rfl : a = x := by simpa using h
    rw [List.find?_cons, hp]
  | a :: l, i + 1, x, h, hp, hn => by
    rw [List.find?_cons, hn 0 a (by omega) rfl]
    exact find_at (by simpa using h) hp fun j y hj hy => hn (j + 1) y (by omega) (by simpa using hy)
theorem find_no {α : Type} {p : α → Bool} {l : List α} (hn : ∀ (j : Nat) (y : α), l[j]? = some y → p y = false) : l.find? p = none := by
  rw [List.find?_eq_none]
  intro x hx
  obtain ⟨j, hj⟩ := List.mem_iff_getElem?.mp hx
  rw [hn j x hj]
  exact Bool.false_ne_true
theorem d_needed {g : G} : Keeps 3 nm_needed (t_needed g) (ds_needed g) := by
  rintro W xs M Q E - ⟨x, ss, r, m, rfl, hx, hl, q1, q2, q3⟩
  show lS W (t_needed g W) [some x, some (.str r), some (.int m), none, none] M _ _
  unfold t_needed
  walk_at "d"
  refine ⟨fun hm => ?_, q2⟩
  walk_at "d"
  refine ⟨x, ss, rfl, hx, fun ha => ?_, fun ha => q3 hm fun z => ha z.1⟩
  walk_at "d"
  refine ⟨r, 20, rfl, hl, fun hr => ?_, fun hr => q3 hm fun z => by rw [z.2] at hr; cases hr⟩
  walk_at "d"
  refine ⟨hl, fun _ => ?_, fun h => absurd hr (by rw [h]; decide)⟩
  have hw := fold_ok hr
  have hwl := okT_len hw
  obtain ⟨n, rfl⟩ : ∃ n : Nat, m = (n : Int) := ⟨m.toNat, by omega⟩
  walk_at "d"
  refine s_for (i_rng2 ?_)
  walk_at "d"
  have e : ((if (12 : Int) < ((fold r).length : Int) then (12 : Int) else ((fold r).length : Int)) + 1 - 1).toNat = min (fold r).length 12 := by
    split <;> omega
  refine ⟨1, _, rfl, by omega, by omega, by split <;> omega, by split <;> omega, ?_⟩
  rw [e]
  refine ⟨fun i ρ M' => M' = M ∧ (∃ y, ρ = [some x, some (.str r), some (.int n), some (.str (fold r)), y]) ∧ ∀ j y, j < i → (begs (fold r))[j]? = some y → r ∉ bestF ss y n, ⟨rfl, ⟨_, rfl⟩, fun j y hj => absurd hj (Nat.not_lt_zero j)⟩, fun _ _ _ _ => trivial, ?_, ?_⟩
  · rintro i ρ' M' d hd ⟨rfl, ⟨y, rfl⟩, h⟩
    obtain ⟨hi, rfl⟩ := rng_at hd
    have hb := begs_get hi
    have ei : (1 + (i : Int)) = ((i + 1 : Nat) : Int) := by omega
    walk_at "d"
    refine sl_S (by omega) ?_
    rw [ei, cut_to]
    walk_at "d"
    refine ⟨x, ss, (fold r).take (i + 1), n, rfl, hx.is, hx.ok ha, beg_ok hw (by omega), ?_⟩
    refine r_inSs (.inl isL_lst) ?_
    walk_at "d"
    refine ⟨fun h2 => ?_, fun h2 => ?_⟩
    · have h2' := of_decide_eq_true h2
      walk_at "d"
      refine sl_S (by omega) ?_
      rw [cut_to]
      have := q1 hm ha hr
      have en : needF ss r ((n : Int)).toNat = some ((fold r).take (i + 1)) := find_at hb (decide_eq_true h2') fun j y hj hy => decide_eq_false (h j y hj hy)
      rw [en] at this
      exact this
    · have h2' := of_decide_eq_false h2
      walk_at "d"
      intro j y hj hy
      by_cases e2 : j = i
      · subst e2
        rw [hb] at hy
        rw [← Option.some.inj hy]
        exact h2'
      · exact h j y (by omega) hy
  · rintro ρ' M' ⟨rfl, ⟨y, rfl⟩, h⟩
    rw [rng_len] at h
    walk_at "d"
    have := q1 hm ha hr
    have en : needF ss r ((n : Int)).toNat = none := find_no fun j y hy => decide_eq_false (h j y (by rw [← begs_len]; exact (List.getElem?_eq_some_iff.mp hy).1) hy)
    rw [en] at this
    exact this
theorem fm_fit (q : List Nat) : ∀ ss : List (List Nat), ((ss.map D.str).filterMap fun d => match d with | .str r => if (rankP r q).isSome = true then some (D.str r) else none | _ => none) = (ss.filter fun r => (rankP r q).isSome).map D.str
  | [] => rfl
  | s :: ss => by
    have ih := fm_fit q ss
    rw [List.map_cons, List.filterMap_cons, List.filter_cons]
    by_cases h : (rankP s q).isSome = true
    · simp only [h, if_true, List.map_cons]
      rw [ih]
    · simp only [h, if_false]
      rw [ih] <;> simp
theorem flat_len {α : Type} {f : α → List D} (h : ∀ c, (f c).length ≤ 1) : ∀ l : List α, ((l.map f).flatten).length ≤ l.length
  | [] => Nat.le_refl 0
  | b :: l => by
    have ih := flat_len h l
    have := h b
    rw [List.map_cons, List.flatten_cons, List.length_append, List.length_cons]
    omega
theorem nextD_len (ss : List (List Nat)) (q : List Nat) (c : Nat) : (nextD ss q c).length ≤ 1 := by
  unfold nextD
  split
  · exact Nat.le_refl 1
  · exact Nat.zero_le 1
theorem signs_ok : ∀ c ∈ SIGNS, okC c = true := by decide
theorem d_nexts {g : G} : Keeps 2 nm_nexts (t_nexts g) (ds_nexts g) := by
  rintro W xs M Q E - ⟨x, ss, q, rfl, hx, hl, q1, q2⟩
  show lS W (t_nexts g W) [some x, some (.str q), none, none, none, none] M _ _
  unfold t_nexts
  walk_at "d"
  refine ⟨q, 11, rfl, hl, fun hq => ?_, fun hq => q2 fun z => by rw [z.2] at hq; cases hq⟩
  walk_at "d"
  refine ⟨x, ss, rfl, hx, fun ha => ?_, fun ha => q2 fun z => ha z.1⟩
  have q1 := q1 ha hq
  have hql := okT_len hq
  walk_at "d"
  refine l_lstM ?_
  walk_at "d"
  intro a hm
  walk_at "d"
  refine s_for ?_
  walk_at "d"
  refine ⟨fun i ρ M' => (∃ y3 y4 y5, ρ = [some x, some (.str q), some (.ref a), y3, y4, y5]) ∧ M' = upM M a (.lst ((SIGNS.take i).map (nextD ss q)).flatten), ⟨⟨_, _, _, rfl⟩, rfl⟩, fun _ _ _ _ => trivial, ?_, ?_⟩
  · rintro i ρ' M' d hd ⟨⟨y3, y4, y5, rfl⟩, rfl⟩
    change (SIGNS.map fun c => D.str [c])[i]? = _ at hd
    rw [List.getElem?_map] at hd
    cases hs : SIGNS[i]? with
    | none => rw [hs] at hd; cases hd
    | some c =>
      rw [hs] at hd
      obtain rfl : D.str [c] = d := Option.some.inj hd
      have hm2 := List.mem_of_getElem? hs
      have hqc : okT 12 (q ++ [c]) = true := okT_app hq (okT_of (Nat.le_refl _) fun c' hc' => by rw [List.mem_singleton.mp hc']; exact signs_ok c hm2)
      have hx2 : ∀ M' : Mh, KnM (upM M a (.lst ((SIGNS.take i).map (nextD ss q)).flatten)) M' → isL M' x (ss.map D.str) := fun M' k => (hx.is.kn (knm_up hm)).kn k
      walk_at "d"
      refine l_lcP (wip_name (by decide)) ?_
      walk_at "d"
      refine ⟨_, hx.is.kn (knm_up hm), fun d => match d with | .str r => if (rankP r (q ++ [c])).isSome = true then some (D.str r) else none | _ => none, by rw [List.length_map]; have := hx.many; omega, hx2, ?_, ?_⟩
      · intro d hd M' k
        obtain ⟨r, hr, rfl⟩ := mem_strs hd
        have hrk := ha r hr
        have hrl := okT_len hrk
        walk_at "d"
        refine r_addS (by rw [List.length_singleton]; omega) ?_
        walk_at "d"
        refine ⟨r, q ++ [c], rfl, by omega, by have := okT_len hqc; omega, fun _ => ?_, fun h => absurd h (by rw [hqc, hrk]; decide)⟩
        cases e : rankP r (q ++ [c]) with
        | none =>
          refine l_non ?_
          refine r_notN (x := .non) rfl ?_
          exact ⟨_, rfl, br_nf' ⟨rfl, by simp only [e]; rfl⟩⟩
        | some k =>
          refine l_non ?_
          refine r_notN (x := .int (k : Int)) rfl ?_
          refine ⟨_, rfl, br_nt' ?_⟩
          walk_at "d"
          simp only [e]
          rfl
      · rw [fm_fit]
        walk_at "d"
        refine c_len (.inl isL_lst) ?_
        rw [List.length_map]
        walk_at "d"
        have hn : (SIGNS.take (i + 1)).map (nextD ss q) = (SIGNS.take i).map (nextD ss q) ++ [nextD ss q c] := by
          rw [List.take_add_one, hs, List.map_append]
          rfl
        have ef : fitN ss (q ++ [c]) = (ss.filter fun r => (rankP r (q ++ [c])).isSome).length := rfl
        rw [← ef]
        refine ⟨fun h2 => ?_, fun h2 => ?_⟩
        · have h2' : 0 < fitN ss (q ++ [c]) := by have := of_decide_eq_true h2; omega
          walk_at "d"
          refine l_bmL ?_
          walk_at "d"
          refine ⟨⟨_, isL_ref upM_same⟩, ?_⟩
          walk_at "d"
          refine m_append upM_same ?_ ?_
          · have h5 := flat_len (fun c => nextD_len ss q c) (SIGNS.take i)
            rw [List.length_take] at h5
            have : SIGNS.length = 67 := by decide
            omega
          · refine ⟨⟨_, _, _, rfl⟩, ?_⟩
            rw [upM_upM, hn, List.flatten_append]
            have : [nextD ss q c].flatten = [.tup [.str [c], .int (fitN ss (q ++ [c]) : Int)]] := by
              unfold nextD
              rw [if_pos h2'] <;> rfl
            rw [this]
        · have h2' : ¬ 0 < fitN ss (q ++ [c]) := by have := of_decide_eq_false h2; omega
          walk_at "d"
          refine ⟨⟨_, _, _, rfl⟩, ?_⟩
          rw [hn, List.flatten_append]
          have : [nextD ss q c].flatten = [] := by
            unfold nextD
            rw [if_neg h2'] <;> rfl
          rw [this, List.append_nil]
  · rintro ρ' M' ⟨⟨y3, y4, y5, rfl⟩, rfl⟩
    have et : SIGNS.take ((SIGNS.map fun c => D.str [c])).length = SIGNS := by rw [List.length_map, List.take_length]
    change lS _ _ _ (upM M a (.lst ((SIGNS.take ((SIGNS.map fun c => D.str [c])).length).map (nextD ss q)).flatten)) _ _
    rw [et]
    walk_at "d"
    exact q1 a hm

theorem fm_folds : ∀ ss : List (List Nat), ((ss.map D.str).filterMap fun d => match d with | .str r => some (D.str (fold r)) | _ => none) = (ss.map fold).map D.str
  | [] => rfl
  | s :: ss => congrArg (_ :: ·) (fm_folds ss)
/-- pick by the folded names -/
def grpG (ss : List (List Nat)) (k : Nat) : D → Option D
  | .int j => match ss[j.toNat]? with
    | some r => if some (fold r) = (ss[k]?).map fold then some (.str r) else none
    | none => none
  | _ => none
theorem fm_grp (ss : List (List Nat)) (k : Nat) : ∀ (n : Nat) (l : List (List Nat)), ss.drop n = l → ((List.range' n l.length).map fun (i : Nat) => D.int (0 + (i : Int))).filterMap (grpG ss k) = (l.filter fun r => decide (some (fold r) = (ss[k]?).map fold)).map D.str
  | n, [], _ => rfl
  | n, r :: l, h => by
    have h0 : ss[n]? = some r := by
      have : (ss.drop n)[0]? = some r := by rw [h] <;> rfl
      rw [List.getElem?_drop] at this
      simpa using this
    have h1 : ss.drop (n + 1) = l := by
      have : (ss.drop n).drop 1 = l := by rw [h] <;> rfl
      rw [List.drop_drop] at this
      exact this
    have ih := fm_grp ss k (n + 1) l h1
    rw [List.length_cons, List.range'_succ, List.map_cons, List.filterMap_cons, List.filter_cons]
    have e : grpG ss k (D.int (0 + (n : Int))) = if some (fold r) = (ss[k]?).map fold then some (.str r) else none := by
      unfold grpG
      have : (0 + (n : Int)).toNat = n := by omega
      simp only [this, h0]
    rw [e]
    by_cases z : some (fold r) = (ss[k]?).map fold
    · simp only [if_pos z, decide_eq_true z, if_true, List.map_cons]
      rw [ih]
    · simp only [if_neg z, decide_eq_false z]
      rw [ih] <;> simp
theorem rng_range (n : Nat) : rngD 0 n = (List.range' 0 n).map fun (i : Nat) => D.int (0 + (i : Int)) := by
  unfold rngD
  rw [List.range_eq_range']
theorem fm_grp0 (ss : List (List Nat)) (k : Nat) : (rngD 0 ss.length).filterMap (grpG ss k) = (grpF ss k).map D.str := by
  rw [rng_range]
  exact fm_grp ss k 0 ss rfl
theorem grpD_len (ss : List (List Nat)) (k : Nat) : (grpD ss k).length ≤ 1 := by
  unfold grpD
  split
  · exact Nat.le_refl 1
  · exact Nat.zero_le 1
theorem grp_eq {ss : List (List Nat)} {k : Nat} {r : List Nat} (h : ss[k]? = some r) : grpF ss k = ss.filter fun x => decide (fold x = fold r) := by
  unfold grpF
  rw [h]
  refine List.filter_congr fun x _ => ?_
  by_cases e : fold x = fold r
  · rw [decide_eq_true e, decide_eq_true (by rw [e] <;> rfl)]
  · rw [decide_eq_false e, decide_eq_false (fun z : some (fold x) = (some r).map fold => e (Option.some.inj z))]
theorem eqF_str (a b : List Nat) : eqF (.str a) (.str b) = decide (a = b) := by
  show (a == b) = decide (a = b)
  by_cases e : a = b
  · rw [e, decide_eq_true rfl]
    exact beq_self_eq_true b
  · rw [decide_eq_false e]
    exact beq_eq_false_iff_ne.mpr e
theorem grp_cnt {ss : List (List Nat)} {k : Nat} {r : List Nat} (h : ss[k]? = some r) : (((ss.map fold).map D.str).countP fun e => eqF e (.str (fold r))) = (grpF ss k).length := by
  rw [grp_eq h, List.map_map, List.countP_map, List.countP_eq_length_filter]
  congr 1
  refine List.filter_congr fun x _ => ?_
  exact eqF_str (fold x) (fold r)
theorem grp_not {ss : List (List Nat)} {k : Nat} {r : List Nat} (h : ss[k]? = some r) : ((ss[k]?).map fold ∉ (ss.take k).map fun r => some (fold r)) ↔ fold r ∉ (ss.map fold).take k := by
  rw [h, ← List.map_take]
  constructor
  · intro z m
    obtain ⟨y, hy, e⟩ := List.mem_map.mp m
    exact z (List.mem_map.mpr ⟨y, hy, congrArg some e⟩)
  · intro z m
    obtain ⟨y, hy, e⟩ := List.mem_map.mp m
    exact z (List.mem_map.mpr ⟨y, hy, Option.some.inj e⟩)
/-- the inner list: the rows folded as the k-th is -/
theorem d_alike {g : G} : Keeps 1 nm_alike (t_alike g) (ds_alike g) := by
  rintro W xs M Q E - ⟨x, ss, rfl, hx, q1, q2⟩
  show lS W (t_alike g W) [some x, none, none, none, none, none] M _ _
  unfold t_alike
  walk_at "d"
  refine ⟨x, ss, rfl, hx, fun ha => ?_, q2⟩
  have q1 := q1 ha
  have hlen := hx.many
  walk_at "d"
  refine l_lcP (wip_name (by decide)) ?_
  walk_at "d"
  refine ⟨_, hx.is, fun d => match d with | .str r => some (D.str (fold r)) | _ => none, by rw [List.length_map]; omega, fun M' k => hx.is.kn k, ?_, ?_⟩
  · intro d hd M' k
    obtain ⟨r, hr, rfl⟩ := mem_strs hd
    have hrk := ha r hr
    have hrl := okT_len hrk
    walk_at "d"
    refine ⟨by omega, fun _ => ?_, fun h => absurd h (by rw [hrk]; decide)⟩
    exact ⟨rfl, rfl⟩
  rw [fm_folds]
  walk_at "d"
  refine l_lstM ?_
  walk_at "d"
  intro a hm
  walk_at "d"
  refine s_for ?_
  walk_at "d"
  refine c_len (.inl (hx.is.kn (knm_up hm))) ?_
  rw [List.length_map]
  walk_at "d"
  refine ⟨by omega, by omega, fun i ρ M' => (∃ y3 y4 y5, ρ = [some x, some (.lst ((ss.map fold).map D.str)), some (.ref a), y3, y4, y5]) ∧ M' = upM M a (.lst (((List.range ss.length).take i).map (grpD ss)).flatten), ⟨⟨_, _, _, rfl⟩, rfl⟩, fun _ _ _ _ => trivial, ?_, ?_⟩
  · rintro i ρ' M' d hd ⟨⟨y3, y4, y5, rfl⟩, rfl⟩
    rw [Int.toNat_natCast] at hd
    obtain ⟨hi, rfl⟩ := rng_at hd
    obtain ⟨r, hr⟩ : ∃ r, ss[i]? = some r := ⟨_, List.getElem?_eq_getElem hi⟩
    have hnm : ((ss.map fold).map D.str)[i]? = some (.str (fold r)) := by rw [List.getElem?_map, List.getElem?_map, hr] <;> rfl
    have ei : (0 + (i : Int)) = ((i : Nat) : Int) := by omega
    rw [ei]
    have hx2 : isL (upM M a (.lst (((List.range ss.length).take i).map (grpD ss)).flatten)) x (ss.map D.str) := hx.is.kn (knm_up hm)
    have hn : ((List.range ss.length).take (i + 1)).map (grpD ss) = ((List.range ss.length).take i).map (grpD ss) ++ [grpD ss i] := by
      rw [List.take_add_one, List.getElem?_range hi, List.map_append]
      rfl
    walk_at "d"
    refine r_ix (.inl isL_lst) (at_nat hnm) ?_
    walk_at "d"
    refine sl_L isL_lst ?_
    rw [cut_to, ← List.map_take]
    refine r_ninSs (.inl isL_lst) ?_
    walk_at "d"
    refine ⟨fun h2 => ?_, fun h2 => ?_⟩
    · have h2' : fold r ∉ (ss.map fold).take i := by simpa using h2
      walk_at "d"
      refine l_bmL ?_
      walk_at "d"
      refine ⟨⟨_, isL_lst⟩, ?_⟩
      walk_at "d"
      refine r_ix (.inl isL_lst) (at_nat hnm) ?_
      walk_at "d"
      refine m_count isL_lst rfl (all_strs _) ?_
      rw [grp_cnt hr]
      walk_at "d"
      refine ⟨fun h3 => ?_, fun h3 => ?_⟩
      · have h3' : 1 < (grpF ss i).length := by have := of_decide_eq_true h3; omega
        have eg : grpD ss i = [.lst ((grpF ss i).map D.str)] := by
          unfold grpD
          exact if_pos ⟨(grp_not hr).mpr h2', h3'⟩
        walk_at "d"
        refine l_bmL ?_
        walk_at "d"
        refine ⟨⟨_, isL_ref upM_same⟩, ?_⟩
        walk_at "d"
        refine l_lcP (wip_name (by decide)) ?_
        walk_at "d"
        refine c_len (.inl hx2) ?_
        rw [List.length_map]
        walk_at "d"
        rw [Int.toNat_natCast]
        refine ⟨by omega, by omega, grpG ss i, by rw [rng_len]; omega, fun _ _ => trivial, ?_, ?_⟩
        · intro d hd M' k
          obtain ⟨j, hj⟩ := List.mem_iff_getElem?.mp hd
          obtain ⟨hj2, rfl⟩ := rng_at hj
          obtain ⟨r', hr'⟩ : ∃ r', ss[j]? = some r' := ⟨_, List.getElem?_eq_getElem hj2⟩
          have hnm' : ((ss.map fold).map D.str)[j]? = some (.str (fold r')) := by rw [List.getElem?_map, List.getElem?_map, hr'] <;> rfl
          have ej : (0 + (j : Int)) = ((j : Nat) : Int) := by omega
          have eG : grpG ss i (.int ((j : Nat) : Int)) = if fold r' = fold r then some (.str r') else none := by
            unfold grpG
            simp only [Int.toNat_natCast, hr', hr, Option.map_some, Option.some.injEq]
          rw [ej]
          walk_at "d"
          refine r_ix (.inl isL_lst) (at_nat hnm') ?_
          walk_at "d"
          refine r_ix (.inl isL_lst) (at_nat hnm) ?_
          walk_at "d"
          refine ⟨fun h4 => ?_, fun h4 => ?_⟩
          · have h4' := of_decide_eq_true h4
            walk_at "d"
            refine r_ix (.inl (hx2.kn k)) (at_nat (by rw [List.getElem?_map, hr'] <;> rfl)) ?_
            exact ⟨rfl, by rw [eG, if_pos h4']⟩
          · have h4' := of_decide_eq_false h4
            exact ⟨rfl, by rw [eG, if_neg h4']⟩
        · rw [fm_grp0]
          walk_at "d"
          refine m_append upM_same ?_ ?_
          · have h5 := flat_len (fun c => grpD_len ss c) ((List.range ss.length).take i)
            rw [List.length_take, List.length_range] at h5
            omega
          · refine ⟨⟨_, _, _, rfl⟩, ?_⟩
            rw [upM_upM, hn, List.flatten_append, eg]
            rfl
      · have h3' : ¬ 1 < (grpF ss i).length := by have := of_decide_eq_false h3; omega
        have eg : grpD ss i = [] := by
          unfold grpD
          exact if_neg fun z => h3' z.2
        walk_at "d"
        refine ⟨⟨_, _, _, rfl⟩, ?_⟩
        rw [hn, List.flatten_append, eg]
        simp
    · have h2' : fold r ∈ (ss.map fold).take i := by simpa using h2
      have eg : grpD ss i = [] := by
        unfold grpD
        exact if_neg fun z => (grp_not hr).mp z.1 h2'
      walk_at "d"
      refine ⟨⟨_, _, _, rfl⟩, ?_⟩
      rw [hn, List.flatten_append, eg]
      simp
  · rintro ρ' M' ⟨⟨y3, y4, y5, rfl⟩, rfl⟩
    rw [Int.toNat_natCast, rng_len, show (List.range ss.length).take ss.length = List.range ss.length from List.take_of_length_le (by rw [List.length_range]; exact Nat.le_refl _)]
    walk_at "d"
    exact q1 a hm
theorem fm_rank (q : List Nat) : ∀ ss : List (List Nat), ((ss.map D.str).filterMap fun d => match d with | .str r => some (optD (rankP r q)) | _ => none) = ss.map fun r => optD (rankP r q)
  | [] => rfl
  | s :: ss => congrArg (_ :: ·) (fm_rank q ss)
theorem flat_opt (o : Option Nat) : flatD (optD o) = true := by cases o <;> rfl
theorem eqF_opt (o : Option Nat) (k : Nat) : eqF (optD o) (.int (k : Int)) = decide (o = some k) := by
  cases o with
  | none => rfl
  | some j =>
    show ((j : Int) == (k : Int)) = decide (some j = some k)
    by_cases e : j = k
    · rw [e, decide_eq_true rfl]
      exact beq_self_eq_true _
    · rw [decide_eq_false fun z => e (Option.some.inj z)]
      exact beq_eq_false_iff_ne.mpr fun z => e (by omega)
theorem rank_cnt (ss : List (List Nat)) (q : List Nat) (k : Nat) : ((ss.map fun r => optD (rankP r q)).countP fun e => eqF e (.int (k : Int))) = rankN ss q k := by
  rw [List.countP_map]
  unfold rankN
  refine List.countP_congr fun r _ => ?_
  show eqF (optD (rankP r q)) (.int (k : Int)) = true ↔ _
  rw [eqF_opt]
theorem fm_by (ss : List (List Nat)) (q : List Nat) (f : Nat → Nat) : (rngD 0 4).filterMap (fun d => match d with | .int j => some (D.int (f j.toNat : Int)) | _ => none) = (List.range 4).map fun k => D.int (f k : Int) := rfl
theorem d_by_rank {g : G} : Keeps 2 nm_by_rank (t_by_rank g) (ds_by_rank g) := by
  rintro W xs M Q E - ⟨x, ss, q, rfl, hx, hl, q1, q2⟩
  show lS W (t_by_rank g W) [some x, some (.str q), none, none, none] M _ _
  unfold t_by_rank
  walk_at "d"
  refine ⟨q, 12, rfl, hl, fun hq => ?_, fun hq => q2 fun z => by rw [z.2] at hq; cases hq⟩
  walk_at "d"
  refine ⟨x, ss, rfl, hx, fun ha => ?_, fun ha => q2 fun z => ha z.1⟩
  have q1 := q1 ha hq
  have hql := okT_len hq
  have hlen := hx.many
  walk_at "d"
  refine l_lcP (wip_name (by decide)) ?_
  walk_at "d"
  refine ⟨_, hx.is, fun d => match d with | .str r => some (optD (rankP r q)) | _ => none, by rw [List.length_map]; omega, fun M' k => hx.is.kn k, ?_, ?_⟩
  · intro d hd M' k
    obtain ⟨r, hr, rfl⟩ := mem_strs hd
    have hrk := ha r hr
    have hrl := okT_len hrk
    walk_at "d"
    refine ⟨r, q, rfl, by omega, by omega, fun _ => ?_, fun h => absurd h (by rw [hq, hrk]; decide)⟩
    exact ⟨rfl, rfl⟩
  rw [fm_rank]
  walk_at "d"
  refine l_lcP (wip_name (by decide)) ?_
  walk_at "d"
  refine ⟨by decide, by decide, fun d => match d with | .int j => some (D.int (rankN ss q j.toNat : Int)) | _ => none, by decide, fun _ _ => trivial, ?_, ?_⟩
  · intro d hd M' k
    obtain ⟨j, hj⟩ := List.mem_iff_getElem?.mp hd
    obtain ⟨hj2, rfl⟩ := rng_at hj
    have ej : (0 + (j : Int)) = ((j : Nat) : Int) := by omega
    rw [ej]
    walk_at "d"
    refine l_bmL ?_
    walk_at "d"
    refine ⟨⟨_, isL_lst⟩, ?_⟩
    walk_at "d"
    refine m_count isL_lst rfl ?_ ?_
    · rw [List.all_map, List.all_eq_true]
      exact fun r _ => flat_opt _
    · rw [rank_cnt]
      exact ⟨rfl, by simp only [Int.toNat_natCast]⟩
  · walk_at "d"
    refine c_tuple isL_lst ?_
    exact q1
theorem fm_needs (ss : List (List Nat)) (n : Nat) : ∀ l : List (List Nat), ((l.map D.str).filterMap fun d => match d with | .str r => some (optS (needF ss r n)) | _ => none) = l.map fun r => optS (needF ss r n)
  | [] => rfl
  | s :: l => congrArg (_ :: ·) (fm_needs ss n l)
/-- how long -/
def lenOf : D → Option D
  | .str s => some (.int (s.length : Int))
  | _ => some .non
theorem lenOf_opt (o : Option (List Nat)) : lenOf (optS o) = some (lenD o) := by cases o <;> rfl
theorem fm_lens (ss : List (List Nat)) (n : Nat) : ∀ l : List (List Nat), (l.map fun r => optS (needF ss r n)).filterMap lenOf = l.map fun r => lenD (needF ss r n)
  | [] => rfl
  | s :: l => by
    rw [List.map_cons, List.filterMap_cons, lenOf_opt, List.map_cons, ← fm_lens ss n l]
theorem need_len {ss : List (List Nat)} {r p : List Nat} {n : Nat} (h : needF ss r n = some p) : p.length ≤ 12 := by
  have m := List.mem_of_find?_eq_some h
  unfold begs at m
  obtain ⟨i, hi, rfl⟩ := List.mem_map.mp m
  have := List.mem_range.mp hi
  rw [List.length_take]
  omega
/-- the lengths of what is needed, None where none is -/
theorem d_fewest_keys {g : G} : Keeps 2 nm_fewest_keys (t_fewest_keys g) (ds_fewest_keys g) := by
  rintro W xs M Q E - ⟨x, ss, m, rfl, hx, q1, q2, q3⟩
  show lS W (t_fewest_keys g W) [some x, some (.int m), none, none, none] M _ _
  unfold t_fewest_keys
  walk_at "d"
  refine ⟨fun hm => ?_, q2⟩
  walk_at "d"
  refine ⟨x, ss, rfl, hx, fun ha => ?_, fun ha => q3 hm ha⟩
  have q1 := q1 hm ha
  have hlen := hx.many
  walk_at "d"
  refine l_lcP (wip_name (by decide)) ?_
  walk_at "d"
  refine ⟨_, hx.is, fun d => match d with | .str r => some (optS (needF ss r m.toNat)) | _ => none, by rw [List.length_map]; omega, fun M' k => hx.is.kn k, ?_, ?_⟩
  · intro d hd M' k
    obtain ⟨r, hr, rfl⟩ := mem_strs hd
    have hrk := ha r hr
    have hrl := okT_len hrk
    walk_at "d"
    refine ⟨x, ss, r, m, rfl, hx.kn k, by omega, fun _ _ _ => ⟨rfl, rfl⟩, fun h => absurd hm h, fun _ h => absurd ⟨ha, hrk⟩ h⟩
  rw [fm_needs]
  walk_at "d"
  refine l_lcP (wip_name (by decide)) ?_
  walk_at "d"
  refine ⟨_, isL_lst, lenOf, by rw [List.length_map]; omega, fun _ _ => isL_lst, ?_, ?_⟩
  · intro d hd M' k
    obtain ⟨r, hr, rfl⟩ := List.mem_map.mp hd
    walk_at "d"
    cases e : needF ss r m.toNat with
    | none =>
      refine r_isN (x := .non) rfl ?_
      refine ⟨_, rfl, fun _ => ?_, fun z => absurd (show true = false from z) Bool.noConfusion⟩
      walk_at "d"
      rfl
    | some p =>
      have := need_len e
      refine r_isN (x := .str p) rfl ?_
      refine ⟨_, rfl, fun z => absurd (show false = true from z) Bool.noConfusion, fun _ => ?_⟩
      walk_at "d"
      exact c_lenS (by omega) ⟨rfl, rfl⟩
  · rw [fm_lens]
    walk_at "d"
    exact q1
abbrev nm__law_rows : List Str := ["_law_script", "_law_town", "_law_found", "_law_k", "_law_one"]
def t__law_rows (g : G) (W : WX) : TS := (tSeq (tAsg (tLc (iRng1 (tCons (tCallS (sp__law_draw g) (WE W) (tCons (tVar 0) (tCons (tVar 1) (tCons (tC (.int 10)) tNil)))) tNil)) (gName 3) tYes (tCallS (sp__law_row g) (WE W0) (tCons (tVar 0) (tCons (tVar 1) tNil))) [3]) (gName 2)) (tSeq (tFor (iRng1 (tCons (tCallS (sp__law_draw g) (WE W) (tCons (tVar 0) (tCons (tVar 1) (tCons (tC (.int 3)) tNil)))) tNil)) (gName 3) (tSeq (tAsg (tCallS (sp__law_pick g) (WE W) (tCons (tVar 0) (tCons (tVar 1) (tCons (tOp (rAddA g.K) (tVar 2) (tLst (tCons (tC (.str (S [65, 98]))) tNil))) tNil)))) (gName 4)) (tDrop (tBM g.K "list" (rAppend) (tVar 2) (tCons (tCallS (sp__law_pick g) (WE W) (tCons (tVar 0) (tCons (tVar 1) (tCons (tLst (tCons (tVar 4) (tCons (tBM0 g.K "str" (rUpper) (tVar 4)) (tCons (tSl (rSlA g.K) (tOp (rAddA g.K) (tC (.str (S [32]))) (tVar 4)) tNoPart (tPart (tC (.int 20)))) tNil)))) tNil)))) tNil))))) (tRet (tVar 2))))
abbrev nm__law_needed : List Str := ["_law_rows_here", "_law_row_here", "_law_many", "_law_whole", "_law_some", "_law_good", "_law_size", "_law_one"]
def t__law_needed (g : G) (W : WX) : TS := (tSeq (tAsg (tCallS (sp__law_folded g) (WE W) (tCons (tVar 1) tNil)) (gName 3)) (tSeq (tAsg (tLc (iRng2 (tCons (tC (.int 1)) (tCons (tOp (rAddA g.K) (tCB (rMin2) (tCons (tC (.int 12)) (tCons (tCB (rLenA g.K) (tCons (tVar 3) tNil)) tNil))) (tC (.int 1))) tNil))) (gName 6) tYes (tSl (rSlA g.K) (tVar 3) tNoPart (tPart (tVar 6))) [6]) (gName 4)) (tSeq (tAsg (tLc (iList g.K (tVar 4)) (gName 7) (tTest (tOp (rInA g.K) (tVar 1) (tCallS (sp__law_best g) (WE W0) (tCons (tVar 0) (tCons (tVar 7) (tCons (tVar 2) tNil)))))) (tVar 7) [7]) (gName 5)) (tRet (tIf (tTest (tOp (rNeA g.K) (tVar 5) (tLst tNil))) (tOp (rIx g.K) (tVar 5) (tC (.int 0))) (tC .non))))))
abbrev nm__law_groups : List Str := ["_law_rows_here", "_law_names", "_law_found", "_law_k", "_law_here", "_law_row_here", "_law_j"]
def t__law_groups (g : G) (W : WX) : TS := (tSeq (tAsg (tLc (iList g.K (tVar 0)) (gName 5) tYes (tCallS (sp__law_folded g) (WE W0) (tCons (tVar 5) tNil)) [5]) (gName 1)) (tSeq (tAsg (tLst tNil) (gName 2)) (tSeq (tFor (iRng1 (tCons (tCB (rLenA g.K) (tCons (tVar 0) tNil)) tNil)) (gName 3) (tSeq (tAsg (tLc (iRng1 (tCons (tCB (rLenA g.K) (tCons (tVar 0) tNil)) tNil)) (gName 6) (tTest (tOp (rEqA g.K) (tOp (rIx g.K) (tVar 1) (tVar 6)) (tOp (rIx g.K) (tVar 1) (tVar 3)))) (tOp (rIx g.K) (tVar 0) (tVar 6)) [6]) (gName 4)) (tIfS (tAnd (tTest (tOp (rGtA) (tCB (rLenA g.K) (tCons (tVar 4) tNil)) (tC (.int 1)))) (tTest (tOp (rNinA g.K) (tOp (rIx g.K) (tVar 1) (tVar 3)) (tSl (rSlA g.K) (tVar 1) tNoPart (tPart (tVar 3)))))) (tDrop (tBM g.K "list" (rAppend) (tVar 2) (tCons (tVar 4) tNil))) tNext))) (tRet (tVar 2)))))


/-! ### the law's rows, what it needs, its groups -/
theorem okC_up1 {c : Nat} (h : okC c = true) : okC (PyProof.Rows.up1 c) = true := by
  have : ∀ c < 128, okC c = true → okC (PyProof.Rows.up1 c) = true := by decide
  exact this c (okC_asc h) h
/-- rows of the law: up to twelve -/
structure RwOk (rows : List (List Nat)) : Prop where
  ok : all20 rows
  len : rows.length ≤ 12
  nq : ∀ r ∈ rows, noq r = true
theorem RwOk.qq {rows : List (List Nat)} (h : RwOk rows) : [113, 113] ∉ rows := fun z => by
  have := h.nq _ z
  cases this
theorem okC_up1q {c : Nat} (h : okC c = true) (h2 : c ≠ 113) : PyProof.Rows.up1 c ≠ 113 := by
  have : ∀ c < 128, (okC c && decide (c ≠ 113)) = true → decide (PyProof.Rows.up1 c ≠ 113) = true := by decide
  exact of_decide_eq_true (this c (okC_asc h) (by rw [h, decide_eq_true h2]; rfl))
theorem RwOk.rows {rows : List (List Nat)} (h : RwOk rows) : rowsOk rows := ⟨h.ok, by have := h.len; omega⟩
theorem RwOk.inn {rows : List (List Nat)} (h : RwOk rows) {M : Mh} {x : D} (hx : isL M x (rows.map D.str)) : RwIn M x rows := ⟨hx, fun s hs => by have := okT_len (h.ok s hs); omega, by have := h.len; omega⟩
def ds__law_rows (g : G) : DSp := fun xs M Q _ => ∃ (ns : List Int) (t : Addr) (n : Nat), xs = [scr g.K ns, .ref t] ∧ n + 1000 < 90000 ∧ Twn M t n ∧
  ∀ l rows M1, M l = none → Tw M t (n + 100) M1 → RwOk rows → Q (.ref l) (upM M1 l (.lst (rows.map D.str)))
abbrev sp__law_rows (g : G) : Sp := lift 2 (ds__law_rows g)
def ds__law_needed (g : G) : DSp := fun xs M Q _ => ∃ (x : D) (rows : List (List Nat)) (r : List Nat) (n : Nat), xs = [x, .str r, .int (n : Int)] ∧ isL M x (rows.map D.str) ∧ RwOk rows ∧ okT 20 r = true ∧ Q (optS (needF rows r n)) M
abbrev sp__law_needed (g : G) : Sp := lift 3 (ds__law_needed g)
def ds__law_groups (g : G) : DSp := fun xs M Q _ => ∃ (x : D) (rows : List (List Nat)), xs = [x] ∧ isL M x (rows.map D.str) ∧ RwOk rows ∧ ∀ a, M a = none → Q (.ref a) (upM M a (.lst (alikeF rows)))
abbrev sp__law_groups (g : G) : Sp := lift 1 (ds__law_groups g)
/-- keep the texts that are so -/
def sieveD (p : List Nat → Bool) : D → Option D
  | .str w => if p w = true then some (.str w) else none
  | _ => none
theorem fm_sieve (p : List Nat → Bool) : ∀ ws : List (List Nat), (ws.map D.str).filterMap (sieveD p) = (ws.filter p).map D.str
  | [] => rfl
  | w :: ws => by
    have ih := fm_sieve p ws
    rw [List.map_cons, List.filter_cons, List.filterMap_cons]
    by_cases h : p w = true
    · rw [if_pos h, List.map_cons, ← ih]
      rw [show sieveD p (.str w) = some (.str w) from if_pos h]
    · rw [if_neg h, ← ih]
      rw [show sieveD p (.str w) = none from if_neg h]
theorem d__law_needed {g : G} : Keeps 3 nm__law_needed (t__law_needed g) (ds__law_needed g) := by
  rintro W xs M Q E - ⟨x, rows, r, n, rfl, hx, ho, hr, q⟩
  show lS W (t__law_needed g W) [some x, some (.str r), some (.int n), none, none, none, none, none] M _ _
  unfold t__law_needed
  have hrl := okT_len hr
  have hw := fold_ok hr
  have hwl := okT_len hw
  walk_at "d"
  refine ⟨by omega, okT_asc hr, ?_⟩
  rw [lfold_fold]
  walk_at "d"
  refine l_lcP (wip_name (by decide)) (i_rng2 ?_)
  walk_at "d"
  have e : ((if ((fold r).length : Int) < (12 : Int) then ((fold r).length : Int) else (12 : Int)) + 1 - 1).toNat = min (fold r).length 12 := by
    split <;> omega
  refine ⟨1, _, rfl, by omega, by omega, by split <;> omega, by split <;> omega, ?_⟩
  rw [e]
  refine ⟨fun d => match d with | .int j => some (.str ((fold r).take j.toNat)) | _ => none, by rw [rng_len]; omega, fun _ _ => trivial, ?_, ?_⟩
  · intro d hd M' k
    obtain ⟨j, hj⟩ := List.mem_iff_getElem?.mp hd
    obtain ⟨hj2, rfl⟩ := rng_at hj
    have ej : (1 + (j : Int)) = ((j + 1 : Nat) : Int) := by omega
    rw [ej]
    walk_at "d"
    refine sl_S (by omega) ?_
    rw [cut_to]
    exact ⟨rfl, rfl⟩
  have eb : (rngD 1 (min (fold r).length 12)).filterMap (fun d => match d with | .int j => some (D.str ((fold r).take j.toNat)) | _ => none) = (begs (fold r)).map D.str := by
    unfold rngD begs
    rw [List.filterMap_map, List.map_map, ← List.filterMap_eq_map]
    congr 1
    funext i
    show some (D.str ((fold r).take (1 + (i : Int)).toNat)) = some (D.str ((fold r).take (i + 1)))
    rw [show (1 + (i : Int)).toNat = i + 1 by omega]
  rw [eb]
  walk_at "d"
  refine l_lcP (wip_name (by decide)) ?_
  walk_at "d"
  refine ⟨_, isL_lst, sieveD fun p => decide (r ∈ bestF rows p n), by rw [List.length_map, begs_len]; omega, fun M' k => isL_lst, ?_, ?_⟩
  · intro d hd M' k
    obtain ⟨p, hp, rfl⟩ := mem_strs hd
    have hpo : okT 12 p = true := by
      unfold begs at hp
      obtain ⟨i, hi, rfl⟩ := List.mem_map.mp hp
      have := List.mem_range.mp hi
      exact beg_ok hw (by omega)
    walk_at "d"
    refine ⟨x, rows, p, n, rfl, hx.kn k, ho.rows, hpo, ?_⟩
    refine r_inSs (.inl isL_lst) ?_
    walk_at "d"
    refine ⟨fun h => ?_, fun h => ?_⟩
    · walk_at "d"
      exact if_pos h
    · exact ⟨rfl, if_neg fun z => absurd (h.symm.trans z) Bool.false_ne_true⟩
  rw [fm_sieve]
  have hgs : ∀ p ∈ (begs (fold r)).filter fun p => decide (r ∈ bestF rows p n), okT 20 p = true := fun p hp => by
    have hp := (List.mem_filter.mp hp).1
    unfold begs at hp
    obtain ⟨i, hi, rfl⟩ := List.mem_map.mp hp
    have := List.mem_range.mp hi
    exact okT_mono (beg_ok hw (by omega)) (by decide)
  have hnd : needF rows r n = ((begs (fold r)).filter fun p => decide (r ∈ bestF rows p n)).head? := by
    unfold needF
    rw [List.head?_filter]
  rw [hnd] at q
  generalize (begs (fold r)).filter (fun p => decide (r ∈ bestF rows p n)) = gs at hgs q
  walk_at "d"
  refine l_lst ?_
  walk_at "d"
  refine r_neD (d := .lst (gs.map D.str)) (e := .lst []) asD_self asD_self (ok_strs hgs) okD_nil ?_
  rw [eqv_nil, isEmpty_map]
  walk_at "d"
  cases gs with
  | nil =>
    refine ⟨fun z => absurd z (by simp), fun _ => ?_⟩
    walk_at "d"
    exact q
  | cons p gs =>
    refine ⟨fun _ => ?_, fun z => absurd z (by simp)⟩
    walk_at "d"
    refine r_ix (.inl isL_lst) (at_nat (j := 0) rfl) ?_
    exact q

theorem d__law_groups {g : G} : Keeps 1 nm__law_groups (t__law_groups g) (ds__law_groups g) := by
  rintro W xs M Q E - ⟨x, ss, rfl, hx, ho, q1⟩
  show lS W (t__law_groups g W) [some x, none, none, none, none, none, none] M _ _
  unfold t__law_groups
  have hlen := ho.len
  have ha := ho.ok
  refine s_seq ?_
  walk_at "d"
  refine l_lcP (wip_name (by decide)) ?_
  walk_at "d"
  refine ⟨_, hx, fun d => match d with | .str r => some (D.str (fold r)) | _ => none, by rw [List.length_map]; omega, fun M' k => hx.kn k, ?_, ?_⟩
  · intro d hd M' k
    obtain ⟨r, hr, rfl⟩ := mem_strs hd
    have hrk := ha r hr
    have hrl := okT_len hrk
    walk_at "d"
    refine ⟨by omega, okT_asc hrk, ?_⟩
    rw [lfold_fold]
    exact ⟨rfl, rfl⟩
  have ef : ((ss.map D.str).filterMap fun d => match d with | .str r => some (D.str (fold r)) | _ => none) = (ss.map fold).map D.str := fm_folds ss
  rw [ef]
  walk_at "d"
  refine l_lstM ?_
  walk_at "d"
  intro a hm
  walk_at "d"
  refine s_for ?_
  walk_at "d"
  refine c_len (.inl (hx.kn (knm_up hm))) ?_
  rw [List.length_map]
  walk_at "d"
  refine ⟨by omega, by omega, fun i ρ M' => (∃ y3 y4 y5 y6, ρ = [some x, some (.lst ((ss.map fold).map D.str)), some (.ref a), y3, y4, y5, y6]) ∧ M' = upM M a (.lst (((List.range ss.length).take i).map (grpD ss)).flatten), ⟨⟨_, _, _, _, rfl⟩, rfl⟩, fun _ _ _ _ => trivial, ?_, ?_⟩
  · rintro i ρ' M' d hd ⟨⟨y3, y4, y5, y6, rfl⟩, rfl⟩
    rw [Int.toNat_natCast] at hd
    obtain ⟨hi, rfl⟩ := rng_at hd
    obtain ⟨r, hr⟩ : ∃ r, ss[i]? = some r := ⟨_, List.getElem?_eq_getElem hi⟩
    have hnm : ((ss.map fold).map D.str)[i]? = some (.str (fold r)) := by rw [List.getElem?_map, List.getElem?_map, hr] <;> rfl
    have ei : (0 + (i : Int)) = ((i : Nat) : Int) := by omega
    rw [ei]
    have hx2 : isL (upM M a (.lst (((List.range ss.length).take i).map (grpD ss)).flatten)) x (ss.map D.str) := hx.kn (knm_up hm)
    have hn : ((List.range ss.length).take (i + 1)).map (grpD ss) = ((List.range ss.length).take i).map (grpD ss) ++ [grpD ss i] := by
      rw [List.take_add_one, List.getElem?_range hi, List.map_append]
      rfl
    walk_at "d"
    refine l_lcP (wip_name (by decide)) ?_
    walk_at "d"
    refine c_len (.inl hx2) ?_
    rw [List.length_map]
    walk_at "d"
    rw [Int.toNat_natCast]
    refine ⟨by omega, by omega, grpG ss i, by rw [rng_len]; omega, fun _ _ => trivial, ?_, ?_⟩
    · intro d hd M' k
      obtain ⟨j, hj⟩ := List.mem_iff_getElem?.mp hd
      obtain ⟨hj2, rfl⟩ := rng_at hj
      obtain ⟨r', hr'⟩ : ∃ r', ss[j]? = some r' := ⟨_, List.getElem?_eq_getElem hj2⟩
      have hnm' : ((ss.map fold).map D.str)[j]? = some (.str (fold r')) := by rw [List.getElem?_map, List.getElem?_map, hr'] <;> rfl
      have ej : (0 + (j : Int)) = ((j : Nat) : Int) := by omega
      have eG : grpG ss i (.int ((j : Nat) : Int)) = if fold r' = fold r then some (.str r') else none := by
        unfold grpG
        simp only [Int.toNat_natCast, hr', hr, Option.map_some, Option.some.injEq]
      rw [ej]
      walk_at "d"
      refine r_ix (.inl isL_lst) (at_nat hnm') ?_
      walk_at "d"
      refine r_ix (.inl isL_lst) (at_nat hnm) ?_
      walk_at "d"
      refine ⟨fun h4 => ?_, fun h4 => ?_⟩
      · have h4' := of_decide_eq_true h4
        walk_at "d"
        refine r_ix (.inl (hx2.kn k)) (at_nat (by rw [List.getElem?_map, hr'] <;> rfl)) ?_
        exact ⟨rfl, by rw [eG, if_pos h4']⟩
      · have h4' := of_decide_eq_false h4
        exact ⟨rfl, by rw [eG, if_neg h4']⟩
    rw [fm_grp0]
    walk_at "d"
    refine c_len (.inl isL_lst) ?_
    rw [List.length_map]
    walk_at "d"
    refine ⟨fun h3 => ?_, fun h3 => ?_⟩
    · have h3' : 1 < (grpF ss i).length := by have := of_decide_eq_true h3; omega
      walk_at "d"
      refine r_ix (.inl isL_lst) (at_nat hnm) ?_
      walk_at "d"
      refine sl_L isL_lst ?_
      rw [cut_to, ← List.map_take]
      refine r_ninSs (.inl isL_lst) ?_
      walk_at "d"
      refine ⟨fun h2 => ?_, fun h2 => ?_⟩
      · have h2' : fold r ∉ (ss.map fold).take i := by simpa using h2
        have eg : grpD ss i = [.lst ((grpF ss i).map D.str)] := by
          unfold grpD
          exact if_pos ⟨(grp_not hr).mpr h2', h3'⟩
        walk_at "d"
        refine l_bmL ?_
        walk_at "d"
        refine ⟨⟨_, isL_ref upM_same⟩, ?_⟩
        walk_at "d"
        refine m_append upM_same ?_ ?_
        · have h5 := flat_len (fun c => grpD_len ss c) ((List.range ss.length).take i)
          rw [List.length_take, List.length_range] at h5
          omega
        · refine ⟨⟨_, _, _, _, rfl⟩, ?_⟩
          rw [upM_upM, hn, List.flatten_append, eg]
          rfl
      · have h2' : fold r ∈ (ss.map fold).take i := by simpa using h2
        have eg : grpD ss i = [] := by
          unfold grpD
          exact if_neg fun z => (grp_not hr).mp z.1 h2'
        walk_at "d"
        refine ⟨⟨_, _, _, _, rfl⟩, ?_⟩
        rw [hn, List.flatten_append, eg]
        simp
    · have h3' : ¬ 1 < (grpF ss i).length := by have := of_decide_eq_false h3; omega
      have eg : grpD ss i = [] := by
        unfold grpD
        exact if_neg fun z => h3' z.2
      walk_at "d"
      refine ⟨⟨_, _, _, _, rfl⟩, ?_⟩
      rw [hn, List.flatten_append, eg]
      simp
  · rintro ρ' M' ⟨⟨y3, y4, y5, y6, rfl⟩, rfl⟩
    rw [Int.toNat_natCast, rng_len, show (List.range ss.length).take ss.length = List.range ss.length from List.take_of_length_le (by rw [List.length_range]; exact Nat.le_refl _)]
    walk_at "d"
    exact q1 a hm

theorem row20 {r : List Nat} (h : isRow r) : okT 20 r = true := okT_mono h.1 (by omega)
def alls (rows : List (List Nat)) : Prop := ∀ r ∈ rows, okT 20 r = true ∧ noq r = true
theorem alls_app {xs ys : List (List Nat)} (h : alls xs) (h2 : alls ys) : alls (xs ++ ys) := fun s hs => by
  rcases List.mem_append.mp hs with z | z
  · exact h s z
  · exact h2 s z
theorem alls_one {x : List Nat} (h : okT 20 x = true) (h2 : noq x = true) : alls [x] := fun s hs => by
  rw [List.mem_singleton.mp hs]
  exact ⟨h, h2⟩
theorem d__law_rows {g : G} : Keeps 2 nm__law_rows (t__law_rows g) (ds__law_rows g) := by
  rintro W xs M Q E - ⟨ns, t, n, rfl, hn, ht, q⟩
  show lS W (t__law_rows g W) [some (scr g.K ns), some (.ref t), none, none, none] M _ _
  unfold t__law_rows
  walk_at "d"
  refine l_lc (wip_name (by decide)) ?_
  walk_at "d"
  refine ⟨ns, t, 10, n, rfl, by omega, by omega, ht, fun d M1 hd w1 => ?_⟩
  walk_at "d"
  refine ⟨by omega, by omega, fun a ha => ?_⟩
  have ha0 : M a = none := (w1.none).mp ha
  have hat := ht.fr ha0
  refine ⟨fun i acc M' => ∃ (rows : List (List Nat)) (M3 : Mh), acc = rows.map D.str ∧ rows.length = i ∧ i ≤ 100 ∧ alls rows ∧ Tw M t (n + 1 + 7 * i) M3 ∧ M3 a = none ∧ M' = upM M3 a (.lst acc), ⟨[], M1, rfl, rfl, by omega, fun o h => absurd h (by simp), w1, ha, rfl⟩, ?_, ?_, ?_⟩
  · rintro i acc M' ⟨rows, M3, rfl, hl, hi, h1, w3, ha3, rfl⟩
    exact ⟨trivial, upM_same, by rw [List.length_map]; omega⟩
  · rintro i acc M' y hy ⟨rows, M3, rfl, hl, hi, h1, w3, ha3, rfl⟩
    obtain ⟨hi, rfl⟩ := rng_at hy
    have hi : i < d := by omega
    walk_at "d"
    refine ⟨ns, t, n + 1 + 7 * i, rfl, by omega, w3.twn.up hat, fun r M4 hr w4 => ?_⟩
    obtain ⟨M5, w5, rfl⟩ := w4.under hat
    refine ⟨upM_same, rows ++ [r], M5, by rw [List.map_append]; rfl, by rw [List.length_append, hl]; rfl, by omega, alls_app h1 (alls_one (row20 hr) hr.2.2), (w3.trans w5).mono (by omega), (w5.none).mpr ha3, by rw [upM_upM]⟩
  · rintro acc M' ⟨rows0, M3, rfl, hl, hi, h1, w3, ha3, rfl⟩
    rw [rng_len] at hl w3
    have hl : rows0.length ≤ 9 := by omega
    have w3' : Tw M t (n + 1 + 7 * 9) M3 := w3.mono (by omega)
    walk_at "d"
    refine s_for ?_
    walk_at "d"
    refine ⟨ns, t, 3, n + 1 + 7 * 9, rfl, by omega, by omega, w3'.twn.up hat, fun d2 M4 hd2 w4 => ?_⟩
    obtain ⟨M5, w5, rfl⟩ := w4.under hat
    have w6 := w3'.trans w5
    walk_at "d"
    refine ⟨by omega, by omega, fun i ρ M' => ∃ (rows : List (List Nat)) (y3 y4 : Option D) (M3 : Mh), ρ = [some (scr g.K ns), some (.ref t), some (.ref a), y3, y4] ∧ M' = upM M3 a (.lst (rows.map D.str)) ∧ Tw M t (n + 70 + 2 * i) M3 ∧ alls rows ∧ rows.length ≤ 9 + i,
      ⟨rows0, _, _, M5, rfl, rfl, w6.mono (by omega), h1, by omega⟩, fun _ _ _ _ => trivial, ?_, ?_⟩
    · rintro i ρ' M' y hy ⟨rows, y3, y4, M6, rfl, rfl, w7, h2, hlen⟩
      obtain ⟨hi, rfl⟩ := rng_at hy
      have hi : i < d2 := by omega
      walk_at "d"
      refine l_lst ?_
      walk_at "d"
      refine r_addL (xs := rows.map D.str) (ys := [.str [65, 98]]) (isL_ref upM_same) isL_lst (by rw [List.length_map]; simp; omega) ?_
      have ea : rows.map D.str ++ [.str [65, 98]] = (rows ++ [[65, 98]]).map D.str := by rw [List.map_append]; rfl
      rw [ea]
      have h3 : alls (rows ++ [[65, 98]]) := alls_app h2 (alls_one rfl rfl)
      walk_at "d"
      refine ⟨ns, t, _, _, n + 70 + 2 * i, rfl, .inl rfl, by simp, by omega, w7.twn.up hat, fun y M7 hy w8 => ?_⟩
      obtain ⟨M8, w9, rfl⟩ := w8.under hat
      obtain ⟨one, hone, rfl⟩ := mem_strs hy
      have h1o := (h3 one hone).1
      have h1q := (h3 one hone).2
      have h1l := okT_len h1o
      walk_at "d"
      refine l_bmL ?_
      walk_at "d"
      refine ⟨⟨_, isL_ref upM_same⟩, ?_⟩
      walk_at "d"
      refine l_lst ?_
      walk_at "d"
      refine m_upper (okT_asc h1o) (by omega) ?_
      walk_at "d"
      refine r_addS (by simp; omega) ?_
      walk_at "d"
      refine sl_S (by simp; omega) ?_
      rw [show (20 : Int) = ((20 : Nat) : Int) from rfl, cut_to]
      have h4 : alls [one, one.map PyProof.Rows.up1, ([32] ++ one).take 20] := fun s hs => by
        simp only [List.mem_cons, List.not_mem_nil, or_false] at hs
        rcases hs with rfl | rfl | rfl
        · exact ⟨h1o, h1q⟩
        · constructor
          · exact okT_of (by rw [List.length_map]; exact h1l) fun c hc => by
              obtain ⟨c', hc', rfl⟩ := List.mem_map.mp hc
              exact okC_up1 (okT_all h1o c' hc')
          · unfold noq at h1q ⊢
            rw [List.all_eq_true] at h1q ⊢
            intro c hc
            obtain ⟨c', hc', rfl⟩ := List.mem_map.mp hc
            exact decide_eq_true (okC_up1q (okT_all h1o c' hc') (of_decide_eq_true (h1q c' hc')))
        · constructor
          · exact okT_of (by rw [List.length_take]; omega) fun c hc => by
              rcases List.mem_append.mp (List.mem_of_mem_take hc) with z | z
              · rw [List.mem_singleton.mp z]
                rfl
              · exact okT_all h1o c z
          · unfold noq at h1q ⊢
            rw [List.all_eq_true] at h1q ⊢
            intro c hc
            rcases List.mem_append.mp (List.mem_of_mem_take hc) with z | z
            · rw [List.mem_singleton.mp z]
              rfl
            · exact h1q c z
      walk_at "d"
      refine ⟨ns, t, .lst ([one, one.map PyProof.Rows.up1, ([32] ++ one).take 20].map D.str), [one, one.map PyProof.Rows.up1, ([32] ++ one).take 20].map D.str, n + 70 + 2 * i + 1, rfl, .inl rfl, by simp, by omega, w9.twn.up hat, fun y M9 hy w10 => ?_⟩
      obtain ⟨M10, w11, rfl⟩ := w10.under hat
      obtain ⟨r, hr, rfl⟩ := mem_strs hy
      walk_at "d"
      refine m_append upM_same ?_ ?_
      · rw [List.length_map]
        omega
      exact ⟨rows ++ [r], _, _, M10, rfl, by rw [upM_upM, List.map_append]; rfl, (w7.trans (w9.trans w11)).mono (by omega), alls_app h2 (alls_one (h4 r hr).1 (h4 r hr).2), by rw [List.length_append]; simp; omega⟩
    · rintro ρ' M' ⟨rows, y3, y4, M6, rfl, rfl, w7, h2, hlen⟩
      rw [rng_len] at w7 hlen
      walk_at "d"
      exact q a rows M6 ha0 (w7.mono (by omega)) ⟨fun r hr => (h2 r hr).1, by omega, fun r hr => (h2 r hr).2⟩


/-! ### the plain law -/
theorem fold_last {s : List Nat} {c : Nat} (h : lo1 c ≠ 32) (h2 : c ≠ 32) : lo1 c ∈ fold (s ++ [c]) := by
  rw [← lfold_fold]
  unfold lfold lfin
  rw [List.foldl_append, List.foldl_cons, List.foldl_nil]
  have e : lstep (s.foldl lstep []) c = s.foldl lstep [] ++ [lo1 c] := if_pos h2
  rw [e, List.getLast?_append, List.getLast?_singleton]
  rw [if_neg (fun z => h (by simpa using z))]
  exact List.mem_append_right _ List.mem_cons_self
theorem fit_mem {r q : List Nat} {c : Nat} (h : (rankP r q).isSome = true) (hc : c ∈ fold q) : c ∈ fold r := by
  have : ∃ t, triF q r = some t := by
    unfold triF
    cases e : rankP r q with
    | none => rw [e] at h; cases h
    | some k => exact ⟨_, rfl⟩
  obtain ⟨t, ht⟩ := this
  have hf := (tri_some ht).2
  unfold fits at hf
  obtain ⟨a, b, e⟩ := hasT_ex.mp hf
  rw [e]
  exact List.mem_append_left _ (List.mem_append_right _ hc)
theorem signs_mem {c : Nat} (h : okC c = true) (h2 : c ≠ 32) (h3 : lo1 c = c) : c ∈ SIGNS := by
  have : ∀ c < 128, (okC c && decide (c ≠ 32) && decide (lo1 c = c)) = true → SIGNS.contains c = true := by decide
  have := this c (okC_asc h) (by rw [h, decide_eq_true h2, decide_eq_true h3]; rfl)
  exact List.contains_iff_mem.mp this
theorem signs_lo : ∀ c ∈ SIGNS, lo1 c = c ∧ c ≠ 32 := by decide
theorem signs_rise : SIGNS.Pairwise (· < ·) := by decide
theorem fold_signs {m : Nat} {r : List Nat} (h : okT m r = true) {c : Nat} (hc : c ∈ fold r) (h2 : c ≠ 32) : c ∈ SIGNS := by
  have := lfold_all (P := fun c => okC c = true ∧ lo1 c = c) (s := r) ⟨rfl, rfl⟩ (fun c hc => ⟨okC_lo1 (okT_all h c hc), lo1_lo1 c⟩) c hc
  exact signs_mem this.1 h2 this.2
theorem rise_same : ∀ {xs ys : List Nat}, xs.Pairwise (· < ·) → ys.Pairwise (· < ·) → (∀ c, c ∈ xs ↔ c ∈ ys) → xs = ys
  | [], [], _, _, _ => rfl
  | [], y :: ys, _, _, h => absurd ((h y).mpr List.mem_cons_self) (by simp)
  | x :: xs, [], _, _, h => absurd ((h x).mp List.mem_cons_self) (by simp)
  | x :: xs, y :: ys, p, p2, h => by
    obtain ⟨a1, a2⟩ := List.pairwise_cons.mp p
    obtain ⟨b1, b2⟩ := List.pairwise_cons.mp p2
    have e : x = y := by
      rcases List.mem_cons.mp ((h x).mp List.mem_cons_self) with z | z
      · exact z
      · rcases List.mem_cons.mp ((h y).mpr List.mem_cons_self) with z2 | z2
        · exact z2.symm
        · have := a1 y z2
          have := b1 x z
          omega
    subst e
    rw [rise_same a2 b2 fun c => ⟨fun m => ?_, fun m => ?_⟩]
    · rcases List.mem_cons.mp ((h c).mp (List.mem_cons_of_mem _ m)) with z | z
      · have := a1 c m
        omega
      · exact z
    · rcases List.mem_cons.mp ((h c).mpr (List.mem_cons_of_mem _ m)) with z | z
      · have := b1 c m
        omega
      · exact z
theorem rise_filter {xs : List Nat} (p : Nat → Bool) (h : xs.Pairwise (· < ·)) : (xs.filter p).Pairwise (· < ·) := List.Pairwise.sublist List.filter_sublist h
theorem one_rise : ∀ {zs : List (List Nat)}, zs.Nodup → zs.Pairwise (· ≤ ·) → (∀ z ∈ zs, ∃ c, z = [c]) → ∃ cs : List Nat, zs = cs.map (fun c => [c]) ∧ cs.Pairwise (· < ·)
  | [], _, _, _ => ⟨[], rfl, List.Pairwise.nil⟩
  | z :: zs, hn, hp, h => by
    obtain ⟨n1, n2⟩ := List.nodup_cons.mp hn
    obtain ⟨p1, p2⟩ := List.pairwise_cons.mp hp
    obtain ⟨c, rfl⟩ := h z List.mem_cons_self
    obtain ⟨cs, rfl, hc⟩ := one_rise n2 p2 fun y hy => h y (List.mem_cons_of_mem _ hy)
    refine ⟨c :: cs, rfl, List.pairwise_cons.mpr ⟨fun d hd => ?_, hc⟩⟩
    have h1 := p1 [d] (List.mem_map.mpr ⟨d, hd, rfl⟩)
    have h2 : c ≠ d := fun e => n1 (List.mem_map.mpr ⟨d, hd, by rw [e]⟩)
    rcases Nat.lt_or_ge c d with z | z
    · exact z
    · exact absurd h1 (List.not_le.mpr (List.Lex.rel (show d < c by omega)))
/-- the signs that the law goes through -/
def lawSigns (rows : List (List Nat)) : List Nat := (TL.joinL [] (rows.map fold) ++ [113]).filter fun c => decide (c ≠ 32)
theorem joinL_mem {c : Nat} : ∀ {ws : List (List Nat)}, c ∈ TL.joinL [] ws ↔ ∃ w ∈ ws, c ∈ w
  | [] => by
    constructor
    · intro h
      have : TL.joinL [] ([] : List (List Nat)) = [] := rfl
      rw [this] at h
      cases h
    · rintro ⟨w, hw, _⟩
      cases hw
  | [w] => by
    have : TL.joinL [] [w] = w := by simp [TL.joinL]
    rw [this]
    simp
  | w :: w2 :: ws => by
    have ih := joinL_mem (c := c) (ws := w2 :: ws)
    have : TL.joinL [] (w :: w2 :: ws) = w ++ TL.joinL [] (w2 :: ws) := by simp [TL.joinL]
    rw [this, List.mem_append, ih]
    constructor
    · rintro (h | ⟨x, hx, h⟩)
      · exact ⟨w, List.mem_cons_self, h⟩
      · exact ⟨x, List.mem_cons_of_mem _ hx, h⟩
    · rintro ⟨x, hx, h⟩
      rcases List.mem_cons.mp hx with z | z
      · rw [z] at h
        exact .inl h
      · exact .inr ⟨x, z, h⟩
def lawNext (rows : List (List Nat)) (q z : List Nat) : List D := if 0 < fitN rows (q ++ z) then [.tup [.str z, .int (fitN rows (q ++ z) : Int)]] else []
theorem flat_filter {α : Type} {f : α → List D} (p : α → Bool) (h : ∀ c, p c = false → f c = []) : ∀ l : List α, (l.map f).flatten = ((l.filter p).map f).flatten
  | [] => rfl
  | c :: l => by
    have ih := flat_filter p h l
    rw [List.map_cons, List.flatten_cons, List.filter_cons, ih]
    cases e : p c with
    | true => simp
    | false => simp [h c e]
theorem law_nexts {rows : List (List Nat)} {q : List Nat} (ho : RwOk rows) {zs : List (List Nat)} (hn : zs.Nodup) (hm : ∀ k, k ∈ zs ↔ k ∈ (lawSigns rows).map fun c => [c]) (hp : zs.Pairwise (· ≤ ·)) : (zs.map (lawNext rows q)).flatten = nextsF rows q := by
  obtain ⟨cs, rfl, hc⟩ := one_rise hn hp fun z hz => by
    obtain ⟨c, _, e⟩ := List.mem_map.mp ((hm z).mp hz)
    exact ⟨c, e.symm⟩
  have hm2 : ∀ c, c ∈ cs ↔ c ∈ lawSigns rows := fun c => by
    constructor
    · intro h
      obtain ⟨c', h1, e⟩ := List.mem_map.mp ((hm [c]).mp (List.mem_map.mpr ⟨c, h, rfl⟩))
      have : c' = c := by injection e
      rw [← this]
      exact h1
    · intro h
      obtain ⟨c', h1, e⟩ := List.mem_map.mp ((hm [c]).mpr (List.mem_map.mpr ⟨c, h, rfl⟩))
      have : c' = c := by injection e
      rw [← this]
      exact h1
  rw [List.map_map]
  have e1 : cs.map (lawNext rows q ∘ fun c => [c]) = cs.map (nextD rows q) := List.map_congr_left fun c _ => rfl
  rw [e1]
  unfold nextsF
  have hz : ∀ c, decide (0 < fitN rows (q ++ [c])) = false → nextD rows q c = [] := fun c h => by
    unfold nextD
    exact if_neg (of_decide_eq_false h)
  rw [flat_filter (fun c => decide (0 < fitN rows (q ++ [c]))) hz cs, flat_filter (fun c => decide (0 < fitN rows (q ++ [c]))) hz SIGNS]
  rw [rise_same (rise_filter _ hc) (rise_filter _ signs_rise) fun c => ?_]
  rw [List.mem_filter, List.mem_filter, hm2]
  constructor
  · rintro ⟨h, hf⟩
    refine ⟨?_, hf⟩
    unfold lawSigns at h
    obtain ⟨h1, h2⟩ := List.mem_filter.mp h
    have h2 := of_decide_eq_true h2
    rcases List.mem_append.mp h1 with z | z
    · obtain ⟨w, hw, hcw⟩ := joinL_mem.mp z
      obtain ⟨r, hr, rfl⟩ := List.mem_map.mp hw
      exact fold_signs (ho.ok r hr) hcw h2
    · rw [List.mem_singleton.mp z]
      decide
  · rintro ⟨h, hf⟩
    refine ⟨?_, hf⟩
    have hf' := of_decide_eq_true hf
    unfold fitN at hf'
    obtain ⟨r, hr⟩ := List.exists_mem_of_length_pos hf'
    obtain ⟨hr1, hr2⟩ := List.mem_filter.mp hr
    obtain ⟨l1, l2⟩ := signs_lo c h
    have hl : c ∈ fold (q ++ [c]) := by
      have := fold_last (s := q) (c := c) (by rw [l1]; exact l2) l2
      rw [l1] at this
      exact this
    have := fit_mem hr2 hl
    unfold lawSigns
    exact List.mem_filter.mpr ⟨List.mem_append_left _ (joinL_mem.mpr ⟨_, List.mem_map.mpr ⟨r, hr1, rfl⟩, this⟩), decide_eq_true l2⟩
abbrev nm_law : List Str := ["_law_script", "_law_town", "_law_rows_here", "_law_many", "_law_some", "_law_due", "_law_k", "_law_query_here", "_law_found", "_law_sign", "_law_count", "_law_ranks", "_law_row_here", "_law_one"]
def t_law (g : G) (W : WX) : TS := (tSeq (tAsg (tLst tNil) (gName 1)) (tSeq (tAsg (tCallS (sp__law_rows g) (WE W) (tCons (tVar 0) (tCons (tVar 1) tNil))) (gName 2)) (tSeq (tAsg (tOp (rAddA g.K) (tC (.int 1)) (tCallS (sp__law_draw g) (WE W) (tCons (tVar 0) (tCons (tVar 1) (tCons (tC (.int 6)) tNil))))) (gName 3)) (tSeq (tIfS (tTest (tOp (rEqA g.K) (tCallS (sp__law_draw g) (WE W) (tCons (tVar 0) (tCons (tVar 1) (tCons (tC (.int 3)) tNil)))) (tC (.int 0)))) (tSeq (tAsg (tLst (tCons (tLst (tCons (tC (.str (S [97, 98, 97, 98, 97, 98, 97, 98, 97, 98, 97, 98]))) (tCons (tC (.str (S [97, 98, 97, 98, 97, 98, 97, 98, 97, 98, 97, 99]))) tNil))) (tCons (tLst (tCons (tC (.str (S [97, 98, 97, 98, 97, 98, 97, 98, 97, 98, 97, 99, 120]))) (tCons (tC (.str (S [97, 98, 97, 98, 97, 98, 97, 98, 97, 98, 97, 99, 121]))) tNil))) (tCons (tLst (tCons (tC (.str (S [122, 57, 32, 81]))) (tCons (tC (.str (S [123, 55, 125]))) tNil))) tNil)))) (gName 4)) (tSeq (tAsg (tOp (rAddA g.K) (tVar 4) (tLst (tCons (tLst (tCons (tC (.str (S [97, 34, 98]))) (tCons (tC (.str (S [35]))) tNil))) (tCons (tLst (tCons (tC (.str (S [126]))) (tCons (tC (.str (S [38, 38]))) tNil))) (tCons (tLst (tCons (tC (.str (S [33, 120]))) (tCons (tC (.str (S [91, 97, 93]))) tNil))) tNil))))) (gName 4)) (tSeq (tAsg (tSl (rSlA g.K) (tOp (rAddA g.K) (tVar 2) (tCallS (sp__law_pick g) (WE W) (tCons (tVar 0) (tCons (tVar 1) (tCons (tVar 4) tNil))))) (tPart (tUn rNegA (tC (.int 12)))) tNoPart) (gName 2)) (tAsg (tCallS (sp__law_pick g) (WE W) (tCons (tVar 0) (tCons (tVar 1) (tCons (tLst (tCons (tC (.int 1)) (tCons (tVar 3) tNil))) tNil)))) (gName 3))))) tNext) (tSeq (tAsg (tLc (iList g.K (tVar 2)) (gName 12) tYes (tCallS (sp__law_needed g) (WE W0) (tCons (tVar 2) (tCons (tVar 12) (tCons (tVar 3) tNil)))) [12]) (gName 5)) (tSeq (tIfS (tOr (tTest (tOp (rNeA g.K) (tLc (iList g.K (tVar 2)) (gName 12) tYes (tCallS (sp_needed g) (WE W0) (tCons (tCB (rListA g.K) (tCons (tVar 2) tNil)) (tCons (tVar 12) (tCons (tVar 3) tNil)))) [12]) (tVar 5))) (tTest (tOp (rNotNo) (tCallS (sp_needed g) (WE W) (tCons (tCB (rListA g.K) (tCons (tVar 2) tNil)) (tCons (tC (.str (S [113, 113]))) (tCons (tVar 3) tNil)))) (tC .non)))) (tRet (tC (.bl false))) tNext) (tSeq (tIfS (tTest (tOp (rNeA g.K) (tCallS (sp_fewest_keys g) (WE W) (tCons (tCB (rListA g.K) (tCons (tVar 2) tNil)) (tCons (tVar 3) tNil))) (tLc (iList g.K (tVar 5)) (gName 13) tYes (tIf (tTest (tOp (rIsNo) (tVar 13) (tC .non))) (tC .non) (tCB (rLenA g.K) (tCons (tVar 13) tNil))) [13]))) (tRet (tC (.bl false))) tNext) (tSeq (tFor (iRng1 (tCons (tCB (rLenA g.K) (tCons (tVar 2) tNil)) tNil)) (gName 6) (tIfS (tAnd (tTest (tOp (rNotNo) (tOp (rIx g.K) (tVar 5) (tVar 6)) (tC .non))) (tTest (tOp (rNinA g.K) (tOp (rIx g.K) (tVar 2) (tVar 6)) (tCallS (sp_best g) (WE W) (tCons (tVar 2) (tCons (tOp (rIx g.K) (tVar 5) (tVar 6)) (tCons (tVar 3) tNil))))))) (tRet (tC (.bl false))) tNext)) (tSeq (tAsg (tCallS (sp__law_pick g) (WE W) (tCons (tVar 0) (tCons (tVar 1) (tCons (tLst (tCons (tSl (rSlA g.K) (tCallS (sp__law_query g) (WE W) (tCons (tVar 0) (tCons (tVar 1) tNil))) tNoPart (tPart (tC (.int 11)))) (tCons (tSl (rSlA g.K) (tC (.str (S [97, 98, 97, 98, 97, 98, 97, 98, 97, 98, 97, 98, 97]))) tNoPart (tPart (tOp (rAddA g.K) (tC (.int 9)) (tCallS (sp__law_draw g) (WE W) (tCons (tVar 0) (tCons (tVar 1) (tCons (tC (.int 3)) tNil))))))) tNil))) tNil)))) (gName 7)) (tSeq (tAsg (tOp (rAddA g.K) (tBM g.K "str" (rJoin g.K) (tC (.str (S []))) (tCons (tLc (iList g.K (tVar 2)) (gName 12) tYes (tCallS (sp__law_folded g) (WE W0) (tCons (tVar 12) tNil)) [12]) tNil)) (tC (.str (S [113])))) (gName 4)) (tSeq (tAsg (tLst tNil) (gName 8)) (tSeq (tFor (iList g.K (tSrtSet g.K (tLc (iStr (tVar 4)) (gName 9) (tTest (tOp (rNeA g.K) (tVar 9) (tC (.str (S [32]))))) (tVar 9) [9]))) (gName 9) (tSeq (tAsg (tCB (rLenA g.K) (tCons (tLc (iList g.K (tVar 2)) (gName 12) (tTest (tOp (rNotNo) (tCallS (sp__law_rank g) (WE W0) (tCons (tVar 12) (tCons (tOp (rAddA g.K) (tVar 7) (tVar 9)) tNil))) (tC .non))) (tVar 12) [12]) tNil)) (gName 10)) (tAsg (tOp (rAddA g.K) (tVar 8) (tOp (rMulA) (tLst (tCons (tTup (tCons (tVar 9) (tCons (tVar 10) tNil))) tNil)) (tCB (rIntA) (tCons (tOp (rGtA) (tVar 10) (tC (.int 0))) tNil)))) (gName 8)))) (tSeq (tIfS (tTest (tOp (rNeA g.K) (tCallS (sp_nexts g) (WE W) (tCons (tCB (rListA g.K) (tCons (tVar 2) tNil)) (tCons (tVar 7) tNil))) (tVar 8))) (tRet (tC (.bl false))) tNext) (tSeq (tIfS (tTest (tOp (rNeA g.K) (tCallS (sp_alike g) (WE W) (tCons (tCB (rListA g.K) (tCons (tVar 2) tNil)) tNil)) (tCallS (sp__law_groups g) (WE W) (tCons (tVar 2) tNil)))) (tRet (tC (.bl false))) tNext) (tSeq (tAsg (tCallS (sp__law_pick g) (WE W) (tCons (tVar 0) (tCons (tVar 1) (tCons (tLst (tCons (tCallS (sp__law_query g) (WE W) (tCons (tVar 0) (tCons (tVar 1) tNil))) (tCons (tSl (rSlA g.K) (tC (.str (S [97, 98, 97, 98, 97, 98, 97, 98, 97, 98, 97, 98]))) tNoPart (tPart (tOp (rAddA g.K) (tC (.int 10)) (tCallS (sp__law_draw g) (WE W) (tCons (tVar 0) (tCons (tVar 1) (tCons (tC (.int 3)) tNil))))))) tNil))) tNil)))) (gName 7)) (tSeq (tAsg (tLc (iList g.K (tVar 2)) (gName 12) tYes (tCallS (sp__law_rank g) (WE W0) (tCons (tVar 12) (tCons (tVar 7) tNil))) [12]) (gName 11)) (tRet (tOp (rEqA g.K) (tCallS (sp_by_rank g) (WE W) (tCons (tCB (rListA g.K) (tCons (tVar 2) tNil)) (tCons (tVar 7) tNil))) (tCB (rTupA g.K) (tCons (tLc (iRng1 (tCons (tC (.int 4)) tNil)) (gName 6) tYes (tBM g.K "list" (rCntF g.K) (tVar 11) (tCons (tVar 6) tNil)) [6]) tNil))))))))))))))))))))


def extraL : List (List (List Nat)) := [[[97, 98, 97, 98, 97, 98, 97, 98, 97, 98, 97, 98], [97, 98, 97, 98, 97, 98, 97, 98, 97, 98, 97, 99]], [[97, 98, 97, 98, 97, 98, 97, 98, 97, 98, 97, 99, 120], [97, 98, 97, 98, 97, 98, 97, 98, 97, 98, 97, 99, 121]], [[122, 57, 32, 81], [123, 55, 125]], [[97, 34, 98], [35]], [[126], [38, 38]], [[33, 120], [91, 97, 93]]]
theorem extra_ok : ∀ ps ∈ extraL, ∀ r ∈ ps, okT 20 r = true ∧ noq r = true := by decide
theorem extra_len : ∀ ps ∈ extraL, ps.length = 2 := by decide
theorem cut_neg' {α : Type} {xs : List α} {m : Nat} (h : 0 < m) : cutL xs (some (-(m : Int))) none = xs.drop (xs.length - m) := by
  unfold cutL
  rw [HT.sIx_none]
  have e : HT.sIx xs.length 0 (some (-(m : Int))) = xs.length - m := by
    have h := HT.clip_eq (-(m : Int)) xs.length 0
    rw [if_pos (by omega)] at h
    omega
  rw [e]
  exact List.take_of_length_le (by rw [List.length_drop]; omega)
theorem last12_ok {rows ps : List (List Nat)} (h : RwOk rows) (h2 : alls ps) : RwOk ((rows ++ ps).drop ((rows ++ ps).length - 12)) := by
  have k : alls (rows ++ ps) := alls_app (fun r hr => ⟨h.ok r hr, h.nq r hr⟩) h2
  exact ⟨fun r hr => (k r (List.mem_of_mem_drop hr)).1, by rw [List.length_drop]; omega, fun r hr => (k r (List.mem_of_mem_drop hr)).2⟩
theorem need_no {rows : List (List Nat)} {r : List Nat} (hr : r ∉ rows) (n : Nat) : needF rows r n = none := by
  unfold needF
  rw [List.find?_eq_none]
  intro p _ z
  exact hr (bestF_mem (of_decide_eq_true z))
theorem need_in {rows : List (List Nat)} {r p : List Nat} {n : Nat} (hr : okT 20 r = true) (h : needF rows r n = some p) : r ∈ bestF rows p n ∧ okT 12 p = true := by
  refine ⟨of_decide_eq_true (p := r ∈ bestF rows p n) (List.find?_some (p := fun p => decide (r ∈ bestF rows p n)) h), ?_⟩
  have m := List.mem_of_find?_eq_some h
  unfold begs at m
  obtain ⟨i, hi, rfl⟩ := List.mem_map.mp m
  have := List.mem_range.mp hi
  exact beg_ok (fold_ok hr) (by omega)
theorem okN_s {m : Nat} {s : List Nat} (h : okT m s = true) {n : Nat} : OkN n (.str s) := OkN.str fun c hc => by have := okC_asc (okT_all h c hc); omega
theorem okd_needs {rows : List (List Nat)} (ho : RwOk rows) (n : Nat) : okD (.lst (rows.map fun r => optS (needF rows r n))) = true := by
  refine (OkN.lst (n := 0) (OkN.map fun r hr => ?_)).ok
  cases e : needF rows r n with
  | none => exact OkN.non
  | some p => exact okN_s (need_in (ho.ok r hr) e).2
theorem okd_lens (rows : List (List Nat)) (n : Nat) : okD (.lst (rows.map fun r => lenD (needF rows r n))) = true := by
  refine (OkN.lst (n := 0) (OkN.map fun r hr => ?_)).ok
  cases needF rows r n with
  | none => exact OkN.non
  | some p => exact OkN.int
theorem okd_nexts (rows : List (List Nat)) (q : List Nat) : okD (.lst (nextsF rows q)) = true := by
  refine (OkN.lst (n := 1) fun d hd => ?_).ok
  unfold nextsF at hd
  obtain ⟨l, hl, hd⟩ := List.mem_flatten.mp hd
  obtain ⟨c, hc, rfl⟩ := List.mem_map.mp hl
  unfold nextD at hd
  split at hd
  · rw [List.mem_singleton.mp hd]
    exact OkN.tup (OkN.cons (OkN.str fun c' hc' => by rw [List.mem_singleton.mp hc']; have := okC_asc (signs_ok c hc); omega) (OkN.cons OkN.int OkN.nil))
  · cases hd
theorem okd_alike {rows : List (List Nat)} (ho : RwOk rows) : okD (.lst (alikeF rows)) = true := by
  refine (OkN.lst (n := 1) fun d hd => ?_).ok
  unfold alikeF at hd
  obtain ⟨l, hl, hd⟩ := List.mem_flatten.mp hd
  obtain ⟨k, hk, rfl⟩ := List.mem_map.mp hl
  unfold grpD at hd
  split at hd
  · rw [List.mem_singleton.mp hd]
    refine OkN.strs fun s hs c hc => ?_
    unfold grpF at hs
    have := okC_asc (okT_all (ho.ok s (List.mem_filter.mp hs).1) c hc)
    omega
  · cases hd
theorem okd_by (rows : List (List Nat)) (q : List Nat) : okD (.tup (byF rows q)) = true := (OkN.tup (n := 0) (OkN.map fun k hk => OkN.int)).ok
theorem fm_needs' (rows : List (List Nat)) (n : Nat) : ((rows.map D.str).filterMap fun d => match d with | .str r => some (optS (needF rows r n)) | _ => none) = rows.map fun r => optS (needF rows r n) := fm_needs rows n rows
theorem joinL_len : ∀ ws : List (List Nat), (TL.joinL [] ws).length = (ws.map (·.length)).sum
  | [] => rfl
  | [w] => by
    have : TL.joinL [] [w] = w := by simp [TL.joinL]
    rw [this]
    simp
  | w :: w2 :: ws => by
    have ih := joinL_len (w2 :: ws)
    have : TL.joinL [] (w :: w2 :: ws) = w ++ TL.joinL [] (w2 :: ws) := by simp [TL.joinL]
    rw [this, List.length_append, ih]
    rfl
theorem folds_sum : ∀ {rows : List (List Nat)}, all20 rows → ((rows.map fold).map (·.length)).sum ≤ 20 * rows.length
  | [], _ => Nat.le_refl 0
  | r :: rows, h => by
    have ih := folds_sum fun x hx => h x (List.mem_cons_of_mem _ hx)
    have h1 := okT_len (h r List.mem_cons_self)
    have h2 := fold_len' r
    rw [List.map_cons, List.map_cons, List.sum_cons, List.length_cons]
    omega
/-- a sign that is no space -/
theorem fm_sign (l : List Nat) : ((l.map fun c => D.str [c]).filterMap (sieveD fun z => !decide (z = [32]))) = ((l.filter fun c => decide (c ≠ 32)).map fun c => [c]).map D.str := by
  have e : (l.map fun c => D.str [c]) = (l.map fun c => [c]).map D.str := by
    rw [List.map_map]
    rfl
  rw [e, fm_sieve, List.filter_map]
  congr 2
  refine List.filter_congr fun c _ => ?_
  show (!decide ([c] = [32])) = decide (c ≠ 32)
  by_cases h : c = 32
  · rw [h]
    rfl
  · simp [h]
theorem nodup_len : ∀ {a b : List (List Nat)}, a.Nodup → (∀ k ∈ a, k ∈ b) → a.length ≤ b.length
  | [], _, _, _ => Nat.zero_le _
  | x :: xs, b, hn, h => by
    obtain ⟨h1, h2⟩ := List.nodup_cons.mp hn
    have hx := h x List.mem_cons_self
    have ih := nodup_len (b := b.erase x) h2 fun k hk => (List.mem_erase_of_ne (fun e => h1 (by rw [← e]; exact hk))).mpr (h k (List.mem_cons_of_mem _ hk))
    have hl := List.length_erase_of_mem hx
    have := List.length_pos_of_mem hx
    rw [List.length_cons]
    omega
theorem lawNext_len (rows : List (List Nat)) (q z : List Nat) : (lawNext rows q z).length ≤ 1 := by
  unfold lawNext
  split
  · exact Nat.le_refl 1
  · exact Nat.zero_le 1
theorem sign_ok {rows : List (List Nat)} (ho : RwOk rows) {c : Nat} (h : c ∈ lawSigns rows) : okC c = true := by
  unfold lawSigns at h
  rcases List.mem_append.mp (List.mem_filter.mp h).1 with z | z
  · obtain ⟨w, hw, hcw⟩ := joinL_mem.mp z
    obtain ⟨r, hr, rfl⟩ := List.mem_map.mp hw
    exact okT_all (fold_ok (ho.ok r hr)) c hcw
  · rw [List.mem_singleton.mp z]
    rfl
theorem isL_tw {M M' : Mh} {t : Addr} {n : Nat} {x : D} {ds : List D} (h : isL M x ds) (hn : x ≠ .ref t) (w : Tw M t n M') : isL M' x ds := by
  rcases h with rfl | ⟨a, rfl, m⟩
  · exact isL_lst
  · exact isL_ref (by rw [w.ne fun z => hn (by rw [z])]; exact m)
theorem d_law {g : G} : Keeps 1 nm_law (t_law g) (ds_law g) := by
  rintro W xs M Q E - ⟨ns, rfl, q⟩
  show lS W (t_law g W) [some (scr g.K ns), none, none, none, none, none, none, none, none, none, none, none, none, none] M _ _
  unfold t_law
  walk_at "d"
  refine l_lstM ?_
  walk_at "d"
  intro t ht
  have tw0 : Twn (upM M t (.lst [])) t 0 := ⟨[], upM_same, Nat.le_refl _⟩
  generalize upM M t (.lst []) = M0 at tw0
  walk_at "d"
  refine ⟨ns, t, 0, rfl, by omega, tw0, fun l rows0 M1 hl w1 ho0 => ?_⟩
  have hl1 : M1 l = none := (w1.none).mpr hl
  have l2 : upM M1 l (.lst (rows0.map D.str)) l = some (.lst (rows0.map D.str)) := upM_same
  have t2 : Twn (upM M1 l (.lst (rows0.map D.str))) t 100 := (w1.twn.keep hl1).mono (by omega)
  generalize upM M1 l (.lst (rows0.map D.str)) = M2 at l2 t2
  walk_at "d"
  refine ⟨ns, t, 6, 100, rfl, by omega, by omega, t2, fun d M3 hd w3 => ?_⟩
  have hlt : l ≠ t := tw0.fr hl
  have l3 : M3 l = some (.lst (rows0.map D.str)) := by rw [w3.ne hlt]; exact l2
  iterate 2 walk_at "d1"
  refine s_cut (fun ρ M' => ∃ (x : D) (rows : List (List Nat)) (m : Nat) (y4 : Option D), ρ = [some (scr g.K ns), some (.ref t), some x, some (.int (m : Int)), y4, none, none, none, none, none, none, none, none, none] ∧ x ≠ .ref t ∧ isL M' x (rows.map D.str) ∧ RwOk rows ∧ 1 ≤ m ∧ m ≤ 6 ∧ Twn M' t 200) ?_ ?_
  · walk_at "d"
    refine ⟨ns, t, 3, 101, rfl, by omega, by omega, w3.twn, fun d2 M4 hd2 w4 => ?_⟩
    have l4 : M4 l = some (.lst (rows0.map D.str)) := by rw [w4.ne hlt]; exact l3
    walk_at "d"
    refine ⟨fun h => ?_, fun h => ?_⟩
    · walk_at "d"
      refine l_lst ?_
      walk_at "d"
      refine l_lst ?_
      walk_at "d"
      refine l_lst ?_
      walk_at "d"
      refine l_lst ?_
      walk_at "d"
      refine l_lst ?_
      walk_at "d"
      refine l_lst ?_
      walk_at "d"
      refine l_lst ?_
      walk_at "d"
      refine l_lst ?_
      walk_at "d"
      refine r_addL isL_lst isL_lst (by decide) ?_
      walk_at "d"
      refine ⟨ns, t, .lst (extraL.map fun ps => D.lst (ps.map D.str)), extraL.map fun ps => D.lst (ps.map D.str), 102, rfl, .inl rfl, by decide, by omega, w4.twn, fun y M5 hy w5 => ?_⟩
      obtain ⟨ps, hps, rfl⟩ := List.mem_map.mp hy
      have l5 : M5 l = some (.lst (rows0.map D.str)) := by rw [w5.ne hlt]; exact l4
      have hp2 := extra_len ps hps
      have hr12 := ho0.len
      refine r_addL (isL_ref l5) isL_lst (by rw [List.length_map, List.length_map]; omega) ?_
      rw [← List.map_append]
      walk_at "d"
      refine sl_L isL_lst ?_
      rw [show (-12 : Int) = (-((12 : Nat) : Int)) from rfl, cut_neg' (by decide), List.length_map, ← List.map_drop]
      walk_at "d"
      refine l_lst ?_
      walk_at "d"
      refine ⟨ns, t, _, _, 103, rfl, .inl rfl, by simp, by omega, w5.twn, fun y M6 hy w6 => ?_⟩
      obtain ⟨m, rfl, hm1, hm2⟩ : ∃ m : Nat, y = .int (m : Int) ∧ 1 ≤ m ∧ m ≤ 6 := by
        simp only [List.mem_cons, List.not_mem_nil, or_false] at hy
        rcases hy with rfl | rfl
        · exact ⟨1, rfl, by omega, by omega⟩
        · exact ⟨1 + d, by simp, by omega, by omega⟩
      walk_at "d"
      exact ⟨_, _, m, _, rfl, (fun z => nomatch z), isL_lst, last12_ok ho0 (extra_ok ps hps), hm1, hm2, w6.twn.mono (by omega)⟩
    · walk_at "d"
      exact ⟨_, rows0, 1 + d, _, by rw [show (((1 + d : Nat) : Int)) = 1 + (d : Int) by omega], (fun z => hlt (by injection z)), isL_ref l4, ho0, by omega, by omega, w4.twn.mono (by omega)⟩
  rintro ρ' M4 ⟨x, rows, m, y4, rfl, hxn, hx, ho, hm1, hm2, t4⟩
  have hlen := ho.len
  have hm : 1 ≤ (m : Int) ∧ (m : Int) ≤ 6 := by omega
  walk_at "d"
  refine l_lcP (wip_name (by decide)) ?_
  walk_at "d"
  refine ⟨_, hx, fun d => match d with | .str r => some (optS (needF rows r m)) | _ => none, by rw [List.length_map]; omega, fun M' k => hx.kn k, ?_, ?_⟩
  · intro d hd M' k
    obtain ⟨r, hr, rfl⟩ := mem_strs hd
    walk_at "d"
    exact ⟨x, rows, r, m, rfl, hx.kn k, ho, ho.ok r hr, rfl, rfl⟩
  rw [fm_needs']
  have hd1 := okd_needs ho m
  walk_at "d"
  refine l_lcP (wip_name (by decide)) ?_
  walk_at "d"
  refine ⟨_, hx, fun d => match d with | .str r => some (optS (needF rows r m)) | _ => none, by rw [List.length_map]; omega, fun M' k => hx.kn k, ?_, ?_⟩
  · intro d hd M' k
    obtain ⟨r, hr, rfl⟩ := mem_strs hd
    have hrk := ho.ok r hr
    have hrl := okT_len hrk
    walk_at "d"
    refine c_list (.inl (hx.kn k)) ?_
    walk_at "d"
    exact ⟨_, rows, r, m, rfl, ho.inn isL_lst, by omega, fun _ _ _ => ⟨rfl, rfl⟩, fun h => absurd hm h, fun _ h => absurd ⟨ho.ok, hrk⟩ h⟩
  rw [fm_needs']
  walk_at "d"
  refine r_neR (d := .lst (rows.map fun r => optS (needF rows r m))) asD_self asD_self hd1 ?_
  walk_at "d"
  refine c_list (.inl hx) ?_
  walk_at "d"
  refine ⟨_, rows, [113, 113], m, rfl, ho.inn isL_lst, by decide, fun _ _ _ => ?_, fun h => absurd hm h, fun _ h => absurd ⟨ho.ok, rfl⟩ h⟩
  rw [Int.toNat_natCast, need_no ho.qq]
  walk_at "d"
  refine br_nf' ?_
  walk_at "d"
  refine c_list (.inl hx) ?_
  walk_at "d"
  refine ⟨_, rows, m, rfl, ho.inn isL_lst, fun _ _ => ?_, fun h => absurd hm h, fun _ h => absurd ho.ok h⟩
  rw [Int.toNat_natCast]
  walk_at "d"
  refine l_lcP (wip_name (by decide)) ?_
  walk_at "d"
  refine ⟨_, isL_lst, lenOf, by rw [List.length_map]; omega, fun _ _ => isL_lst, ?_, ?_⟩
  · intro d hd M' k
    obtain ⟨r, hr, rfl⟩ := List.mem_map.mp hd
    walk_at "d"
    cases e : needF rows r m with
    | none =>
      refine r_isN (x := .non) rfl ?_
      refine ⟨_, rfl, fun _ => ?_, fun z => absurd (show true = false from z) Bool.noConfusion⟩
      walk_at "d"
      rfl
    | some p =>
      have := need_len e
      refine r_isN (x := .str p) rfl ?_
      refine ⟨_, rfl, fun z => absurd (show false = true from z) Bool.noConfusion, fun _ => ?_⟩
      walk_at "d"
      exact c_lenS (by omega) ⟨rfl, rfl⟩
  rw [fm_lens]
  walk_at "d"
  refine r_neR (d := .lst (rows.map fun r => lenD (needF rows r m))) asD_self asD_self (okd_lens rows m) ?_
  walk_at "d"
  refine s_for ?_
  walk_at "d"
  refine c_len (.inl hx) ?_
  rw [List.length_map]
  walk_at "d"
  refine ⟨by omega, by omega, fun i ρ M' => M' = M4 ∧ ∃ y6, ρ = [some (scr g.K ns), some (.ref t), some x, some (.int (m : Int)), y4, some (.lst (rows.map fun r => optS (needF rows r m))), y6, none, none, none, none, none, none, none], ⟨rfl, _, rfl⟩, fun _ _ _ _ => trivial, ?_, ?_⟩
  · rintro i ρ' M' d hd ⟨rfl, y6, rfl⟩
    rw [Int.toNat_natCast] at hd
    obtain ⟨hi, rfl⟩ := rng_at hd
    obtain ⟨r, hr⟩ : ∃ r, rows[i]? = some r := ⟨_, List.getElem?_eq_getElem hi⟩
    have hrk := ho.ok r (List.mem_of_getElem? hr)
    have hnm : (rows.map fun r => optS (needF rows r m))[i]? = some (optS (needF rows r m)) := by rw [List.getElem?_map, hr] <;> rfl
    have ei : (0 + (i : Int)) = ((i : Nat) : Int) := by omega
    rw [ei]
    walk_at "d"
    refine r_ix (.inl isL_lst) (at_nat hnm) ?_
    walk_at "d"
    cases e : needF rows r m with
    | none =>
      refine r_notN (x := .non) rfl ?_
      refine ⟨_, rfl, br_nf' ?_⟩
      walk_at "d"
      first | exact ⟨rfl, _, rfl⟩ | exact ⟨_, rfl⟩ | trivial
    | some p =>
      obtain ⟨hp1, hp2⟩ := need_in hrk e
      refine r_notN (x := .str p) rfl ?_
      refine ⟨_, rfl, br_nt' ?_⟩
      walk_at "d"
      refine r_ix (.inl hx) (at_nat (by rw [List.getElem?_map, hr] <;> rfl)) ?_
      walk_at "d"
      refine r_ix (.inl isL_lst) (at_nat hnm) ?_
      rw [e]
      walk_at "d"
      refine ⟨x, rows, p, m, rfl, hx, ho.rows, hp2, ?_⟩
      refine r_ninSs (.inl isL_lst) ?_
      rw [decide_eq_true hp1]
      walk_at "d"
      first | exact ⟨rfl, _, rfl⟩ | exact ⟨_, rfl⟩ | trivial
  rintro ρ' M' ⟨rfl, y6, rfl⟩
  walk_at "d"
  refine l_lst ?_
  walk_at "d"
  refine ⟨ns, t, 200, rfl, by omega, t4, fun q1 M5 hq1 w5 => ?_⟩
  have hq1l := okT_len hq1
  walk_at "d"
  refine sl_S (by omega) ?_
  rw [show (11 : Int) = ((11 : Nat) : Int) from rfl, cut_to]
  walk_at "d"
  refine ⟨ns, t, 3, 205, rfl, by omega, by omega, w5.twn, fun d3 M6 hd3 w6 => ?_⟩
  walk_at "d"
  refine sl_S (by decide) ?_
  rw [show (9 : Int) + (d3 : Int) = ((9 + d3 : Nat) : Int) by omega, cut_to]
  walk_at "d"
  refine ⟨ns, t, .lst ([q1.take 11, ([97, 98, 97, 98, 97, 98, 97, 98, 97, 98, 97, 98, 97] : List Nat).take (9 + d3)].map D.str), [q1.take 11, ([97, 98, 97, 98, 97, 98, 97, 98, 97, 98, 97, 98, 97] : List Nat).take (9 + d3)].map D.str, 206, rfl, .inl rfl, by simp, by omega, w6.twn, fun y M7 hy w7 => ?_⟩
  obtain ⟨qu, hqu, rfl⟩ := mem_strs hy
  have hq11 : okT 11 qu = true := by
    simp only [List.mem_cons, List.not_mem_nil, or_false] at hqu
    rcases hqu with rfl | rfl
    · exact okT_of (by rw [List.length_take]; omega) fun c hc => okT_all hq1 c (List.mem_of_mem_take hc)
    · exact okT_of (by rw [List.length_take]; omega) fun c hc => by
        have : ∀ c ∈ ([97, 98, 97, 98, 97, 98, 97, 98, 97, 98, 97, 98, 97] : List Nat), okC c = true := by decide
        exact this c (List.mem_of_mem_take hc)
  have hqul := okT_len hq11
  have w57 := (w5.trans w6).trans w7
  have hx7 := isL_tw hx hxn w57
  have t7 : Twn M7 t 300 := w7.twn.mono (by omega)
  clear hx w57 w5 w6 w7 hy hqu
  walk_at "d"
  refine l_lcP (wip_name (by decide)) ?_
  walk_at "d"
  refine ⟨_, hx7, fun d => match d with | .str r => some (D.str (fold r)) | _ => none, by rw [List.length_map]; omega, fun M' k => hx7.kn k, ?_, ?_⟩
  · intro d hd M' k
    obtain ⟨r, hr, rfl⟩ := mem_strs hd
    have hrk := ho.ok r hr
    have hrl := okT_len hrk
    walk_at "d"
    refine ⟨by omega, okT_asc hrk, ?_⟩
    rw [lfold_fold]
    exact ⟨rfl, rfl⟩
  have ef : ((rows.map D.str).filterMap fun d => match d with | .str r => some (D.str (fold r)) | _ => none) = (rows.map fold).map D.str := fm_folds rows
  rw [ef]
  have hsum := folds_sum ho.ok
  walk_at "d"
  refine m_join (.inl isL_lst) (by rw [List.length_nil, Nat.mul_zero]; omega) ?_
  have hjl := joinL_len (rows.map fold)
  walk_at "d"
  refine r_addS (by simp; omega) ?_
  walk_at "d"
  refine l_lst ?_
  walk_at "d"
  refine s_for ?_
  walk_at "d"
  refine l_sortSet ?_
  refine l_lcP (wip_name (by decide)) ?_
  walk_at "d"
  refine ⟨sieveD fun z => !decide (z = [32]), by rw [List.length_map, List.length_append, List.length_singleton]; omega, fun _ _ => trivial, ?_, ?_⟩
  · intro d hd M' k
    obtain ⟨c, hc, rfl⟩ := List.mem_map.mp hd
    walk_at "d"
    refine ⟨fun h => ?_, fun h => ?_⟩
    · walk_at "d"
      exact if_pos h
    · exact ⟨rfl, if_neg fun z => absurd (h.symm.trans z) Bool.false_ne_true⟩
  rw [fm_sign]
  have els : ((TL.joinL [] (rows.map fold) ++ [113]).filter fun c => decide (c ≠ 32)) = lawSigns rows := rfl
  rw [els]
  have hsl : (lawSigns rows).length ≤ 300 := by
    unfold lawSigns
    refine Nat.le_trans (List.length_filter_le _ _) ?_
    rw [List.length_append, List.length_singleton]
    omega
  refine ⟨_, isL_lst, by rw [List.length_map]; omega, fun zs hz1 hz2 hz3 => ?_⟩
  have hzl : zs.length ≤ 300 := by
    have := nodup_len hz1 fun k hk => (hz2 k).mp hk
    rw [List.length_map] at this
    omega
  have hne := law_nexts (q := qu) ho hz1 hz2 hz3
  have hso : ∀ z ∈ zs, okT 1 z = true := fun z hz => by
    obtain ⟨c, hc, rfl⟩ := List.mem_map.mp ((hz2 z).mp hz)
    exact okT_of (Nat.le_refl 1) fun c' hc' => by rw [List.mem_singleton.mp hc']; exact sign_ok ho hc
  refine ⟨_, isL_lst, fun i ρ M' => M' = M7 ∧ ∃ y4 y9 y10, ρ = [some (scr g.K ns), some (.ref t), some x, some (.int (m : Int)), y4, some (.lst (rows.map fun r => optS (needF rows r m))), y6, some (.str qu), some (.lst ((zs.take i).map (lawNext rows qu)).flatten), y9, y10, none, none, none], ⟨rfl, _, _, _, rfl⟩, fun _ _ _ _ => isL_lst, ?_, ?_⟩
  · rintro i ρ' M' d hd ⟨rfl, y4', y9, y10, rfl⟩
    obtain ⟨z, hz, rfl⟩ := strs_at hd
    have hzm := List.mem_of_getElem? hz
    have hzo := hso z hzm
    have hzl1 := okT_len hzo
    have hqz : okT 12 (qu ++ z) = true := okT_app hq11 hzo
    have hqzl := okT_len hqz
    walk_at "d"
    refine l_lcP (wip_name (by decide)) ?_
    walk_at "d"
    refine ⟨_, hx7, fun d => match d with | .str r => if (rankP r (qu ++ z)).isSome = true then some (D.str r) else none | _ => none, by rw [List.length_map]; omega, fun M' k => hx7.kn k, ?_, ?_⟩
    · intro d hd M' k
      obtain ⟨r, hr, rfl⟩ := mem_strs hd
      have hrk := ho.ok r hr
      have hrl := okT_len hrk
      walk_at "d"
      refine r_addS (by omega) ?_
      walk_at "d"
      refine ⟨r, qu ++ z, rfl, by omega, by omega, okT_asc hrk, okT_asc hqz, ?_⟩
      have er : lrankF (lfold r) (lfold (qu ++ z)) = rankP r (qu ++ z) := by rw [lrank_rank, lfold_fold, lfold_fold]; rfl
      rw [er]
      cases e : rankP r (qu ++ z) with
      | none =>
        refine l_non ?_
        refine r_notN (x := .non) rfl ?_
        exact ⟨_, rfl, br_nf' ⟨rfl, by simp only [e]; rfl⟩⟩
      | some k =>
        refine l_non ?_
        refine r_notN (x := .int (k : Int)) rfl ?_
        refine ⟨_, rfl, br_nt' ?_⟩
        walk_at "d"
        simp only [e]
        rfl
    have ef2 : ((rows.map D.str).filterMap fun d => match d with | .str r => if (rankP r (qu ++ z)).isSome = true then some (D.str r) else none | _ => none) = (rows.filter fun r => (rankP r (qu ++ z)).isSome).map D.str := fm_fit (qu ++ z) rows
    rw [ef2]
    walk_at "d"
    refine c_len (.inl isL_lst) ?_
    rw [List.length_map]
    have efn : (rows.filter fun r => (rankP r (qu ++ z)).isSome).length = fitN rows (qu ++ z) := rfl
    rw [efn]
    walk_at "d"
    refine l_lst ?_
    walk_at "d"
    refine c_intB ?_
    have em : (if (decide ((0 : Int) < (fitN rows (qu ++ z) : Int))) = true then (1 : Int) else 0) = ((if 0 < fitN rows (qu ++ z) then 1 else 0 : Nat) : Int) := by
      by_cases h : 0 < fitN rows (qu ++ z)
      · rw [if_pos (decide_eq_true (by omega)), if_pos h] <;> rfl
      · rw [if_neg (by simpa using h), if_neg h] <;> rfl
    rw [em]
    refine r_mulL (xs := [.tup [.str z, .int (fitN rows (qu ++ z) : Int)]]) isL_lst (by split <;> simp) (by split <;> decide) ?_
    have e2 : (List.replicate (if 0 < fitN rows (qu ++ z) then 1 else 0) [D.tup [.str z, .int (fitN rows (qu ++ z) : Int)]]).flatten = lawNext rows qu z := by
      unfold lawNext
      split <;> rfl
    rw [e2]
    have hfl := flat_len (fun c => lawNext_len rows qu c) (zs.take i)
    have hnl := lawNext_len rows qu z
    rw [List.length_take] at hfl
    refine r_addL isL_lst isL_lst (by omega) ?_
    have e3 : ((zs.take i).map (lawNext rows qu)).flatten ++ lawNext rows qu z = ((zs.take (i + 1)).map (lawNext rows qu)).flatten := by
      rw [List.take_add_one, hz, List.map_append, List.flatten_append]
      simp
    rw [e3]
    walk_at "d"
    first | exact ⟨rfl, _, _, _, rfl⟩ | exact ⟨_, _, _, rfl⟩ | trivial
  rintro ρ' M' ⟨rfl, y4', y9, y10, rfl⟩
  rw [List.length_map, List.take_length, hne]
  clear hne hz1 hz2 hz3 hso
  walk_at "d"
  refine c_list (.inl hx7) ?_
  walk_at "d"
  refine ⟨_, rows, qu, rfl, ho.inn isL_lst, by omega, fun _ _ a ha => ?_, fun z => absurd ⟨ho.ok, hq11⟩ z⟩
  walk_at "d"
  refine r_neR (d := .lst (nextsF rows qu)) (asD_ref upM_same) asD_self (okd_nexts rows qu) ?_
  have hx8 := hx7.kn (knm_up (c := .lst (nextsF rows qu)) ha)
  have t8 := t7.keep (c := .lst (nextsF rows qu)) ha
  generalize upM M' a (.lst (nextsF rows qu)) = M8 at hx8 t8
  walk_at "d"
  refine c_list (.inl hx8) ?_
  walk_at "d"
  refine ⟨_, rows, rfl, ho.inn isL_lst, fun _ a ha => ?_, fun z => absurd ho.ok z⟩
  have hx9 := hx8.kn (knm_up (c := .lst (alikeF rows)) ha)
  have t9 := t8.keep (c := .lst (alikeF rows)) ha
  have l9 : upM M8 a (.lst (alikeF rows)) a = some (.lst (alikeF rows)) := upM_same
  generalize upM M8 a (.lst (alikeF rows)) = M9 at hx9 t9 l9
  walk_at "d"
  refine ⟨_, rows, rfl, hx9, ho, fun b hb => ?_⟩
  have hx10 := hx9.kn (knm_up (c := .lst (alikeF rows)) hb)
  have t10 := t9.keep (c := .lst (alikeF rows)) hb
  have l10 := up_keep (c := .lst (alikeF rows)) l9 hb
  have l11 : upM M9 b (.lst (alikeF rows)) b = some (.lst (alikeF rows)) := upM_same
  generalize upM M9 b (.lst (alikeF rows)) = M10 at hx10 t10 l10 l11
  refine r_neR (d := .lst (alikeF rows)) (asD_ref l10) (asD_ref l11) (okd_alike ho) ?_
  walk_at "d"
  refine l_lst ?_
  walk_at "d"
  refine ⟨ns, t, 300, rfl, by omega, t10, fun q2 M11 hq2 w11 => ?_⟩
  have hq2l := okT_len hq2
  walk_at "d"
  refine ⟨ns, t, 3, 305, rfl, by omega, by omega, w11.twn, fun d4 M12 hd4 w12 => ?_⟩
  walk_at "d"
  refine sl_S (by decide) ?_
  rw [show (10 : Int) + (d4 : Int) = ((10 + d4 : Nat) : Int) by omega, cut_to]
  walk_at "d"
  refine ⟨ns, t, .lst ([q2, ([97, 98, 97, 98, 97, 98, 97, 98, 97, 98, 97, 98] : List Nat).take (10 + d4)].map D.str), [q2, ([97, 98, 97, 98, 97, 98, 97, 98, 97, 98, 97, 98] : List Nat).take (10 + d4)].map D.str, 306, rfl, .inl rfl, by simp, by omega, w12.twn, fun y M13 hy w13 => ?_⟩
  obtain ⟨qv, hqv, rfl⟩ := mem_strs hy
  have hq12 : okT 12 qv = true := by
    simp only [List.mem_cons, List.not_mem_nil, or_false] at hqv
    rcases hqv with rfl | rfl
    · exact okT_mono hq2 (by decide)
    · exact okT_of (by rw [List.length_take]; omega) fun c hc => by
        have : ∀ c ∈ ([97, 98, 97, 98, 97, 98, 97, 98, 97, 98, 97, 98] : List Nat), okC c = true := by decide
        exact this c (List.mem_of_mem_take hc)
  have hqvl := okT_len hq12
  have hx13 := isL_tw hx10 hxn ((w11.trans w12).trans w13)
  clear hx10 hx9 hx8 hx7 t10 t9 t8 t7 l9 l10 l11 w11 w12 w13
  walk_at "d"
  refine l_lcP (wip_name (by decide)) ?_
  walk_at "d"
  refine ⟨_, hx13, fun d => match d with | .str r => some (optD (rankP r qv)) | _ => none, by rw [List.length_map]; omega, fun M' k => hx13.kn k, ?_, ?_⟩
  · intro d hd M' k
    obtain ⟨r, hr, rfl⟩ := mem_strs hd
    have hrk := ho.ok r hr
    have hrl := okT_len hrk
    walk_at "d"
    refine ⟨r, qv, rfl, by omega, by omega, okT_asc hrk, okT_asc hq12, ?_⟩
    have er : lrankF (lfold r) (lfold qv) = rankP r qv := by rw [lrank_rank, lfold_fold, lfold_fold]; rfl
    rw [er]
    exact ⟨rfl, rfl⟩
  have ef3 : ((rows.map D.str).filterMap fun d => match d with | .str r => some (optD (rankP r qv)) | _ => none) = rows.map fun r => optD (rankP r qv) := fm_rank qv rows
  rw [ef3]
  walk_at "d"
  refine c_list (.inl hx13) ?_
  walk_at "d"
  refine ⟨_, rows, qv, rfl, ho.inn isL_lst, by omega, fun _ _ => ?_, fun z => absurd ⟨ho.ok, hq12⟩ z⟩
  walk_at "d"
  refine l_lcP (wip_name (by decide)) ?_
  walk_at "d"
  refine ⟨by decide, by decide, fun d => match d with | .int j => some (D.int (rankN rows qv j.toNat : Int)) | _ => none, by decide, fun _ _ => trivial, ?_, ?_⟩
  · intro d hd M' k
    obtain ⟨j, hj⟩ := List.mem_iff_getElem?.mp hd
    obtain ⟨hj2, rfl⟩ := rng_at hj
    have ej : (0 + (j : Int)) = ((j : Nat) : Int) := by omega
    rw [ej]
    walk_at "d"
    refine l_bmL ?_
    walk_at "d"
    refine ⟨⟨_, isL_lst⟩, ?_⟩
    walk_at "d"
    refine m_count isL_lst rfl ?_ ?_
    · rw [List.all_map, List.all_eq_true]
      exact fun r _ => flat_opt _
    · rw [rank_cnt]
      exact ⟨rfl, by simp only [Int.toNat_natCast]⟩
  walk_at "d"
  refine c_tuple isL_lst ?_
  refine r_eqR (d := .tup (byF rows qv)) asD_self asD_self (okd_by rows qv) ?_
  exact q _
def top (i : Nat) : Stmt := PySem.Challenge.pw_typeasks_k40_whole_studied.main.body.getD i (.Pass ⟨0, 0, 0, 0⟩)
structure Txt (mg : Str → Option Value) (g : G) : Prop where
  b_len : mg "len" = none
  b_ord : mg "ord" = none
  b_all : mg "all" = none
  b_sorted : mg "sorted" = none
  b_range : mg "range" = none
  b_min : mg "min" = none
  b_tuple : mg "tuple" = none
  b_list : mg "list" = none
  b_set : mg "set" = none
  b_int : mg "int" = none
  c_MOST_ROW : ∃ t, mg "MOST_ROW" = some (.int 20 t)
  c_MOST_TYPED : ∃ t, mg "MOST_TYPED" = some (.int 12 t)
  c_MOST_ANSWER : ∃ t, mg "MOST_ANSWER" = some (.int 6 t)
  c_SIGNS : ∃ t, mg "SIGNS" = some (.str "!\"#$&'()*+,-./0123456789:;<=>?\x40[\\]^_`abcdefghijklmnopqrstuvwxyz{|}~" t)
  c_RANKS : ∃ t, mg "RANKS" = some (.int 4 t)
  x_BadText : ExC g.K mg "BadText" g.cT
  x_BadNumber : ExC g.K mg "BadNumber" g.cN
abbrev s_look_text : Stmt := top 7
theorem sc_look_text : FnScope nm_look_text ["text", "most"] (defScope s_look_text) := C8.fnScope_by (by decide +kernel)
theorem ok_look_text {P : Program} {w : World} {mg : Str → Option Value} {base : Heap} {g : G} {f : Addr} {fd : FuncData} (F : Fun g.K "look_text" "look_text" s_look_text f fd) (T : Txt mg g)  : FnOk P w g.K mg base (L2.CX P w) 1 f fd ["text", "most"] (sp_look_text g) := by
  refine F.okX sc_look_text (fun vs H Q E h => lift_len h) (fun cdv A outer s H vs Q E hr h => ⟨t_look_text g (WF E), ?_, lift_body (by decide) (d_look_text (g := g)) h⟩)
  have tk : Takes (cxOf (L2.CX P w) P w g.K mg base nm_look_text "look_text" (defScope s_look_text) f cdv A outer s H E) (WF E) := takes_of rfl rfl rfl rfl
  skip
  exact (pss_one (ps_if (PW.pt (pw_or (pt_cmpR op_gt (pe_callB cr_lenA (by rfl) T.b_len (by decide +kernel) (pa_cons (pv 0) pa_nil)) (pv 1) (nomark _)) (pw_or1 (pt_not (pt_val (pe_callB (cr_all rfl) (by rfl) T.b_all (by decide +kernel) (pa_cons (pe_lc (own := [("sign", 2)]) (g := (gName 2)) (tt := tYes) (te := (tAndV (tChain (rLeA) (rLtA) (tC (.int 32)) (tCB (rOrd) (tCons (tVar 2) tNil)) (tC (.int 127))) (tOp (rNeA g.K) (tCB (rOrd) (tCons (tVar 2) tNil)) (tC (.int 37))))) rfl sc_look_text.nd (pi_str (pv 0)) (blkOk_by (own := [("sign", 2)]) (N := nm_look_text) (sc := defScope s_look_text) (by decide +kernel)) (fun _ _ _ _ _ => (pg_name (i := 2) sc_look_text.nd rfl (by first | exact Or.inl rfl | exact Or.inr rfl))) (fun _ _ _ _ _ => pts_nil) (fun _ _ _ _ _ => (pe_and (pe_chain op_le op_lt pe_int (pe_callB cr_ord (by rfl) T.b_ord (by decide +kernel) (pa_cons (pv 2) pa_nil)) pe_int) (pe_one (pe_cmpR (op_neA hr.units) (pe_callB cr_ord (by rfl) T.b_ord (by decide +kernel) (pa_cons (pv 2) pa_nil)) pe_int (nomark _)))))) pa_nil))))))) (pss_one (ps_raiseC T.x_BadText rfl tk rfl)) pss_nil))
abbrev s_folded : Stmt := top 8
theorem sc_folded : FnScope nm_folded ["text"] (defScope s_folded) := C8.fnScope_by (by decide +kernel)
theorem ok_folded {P : Program} {w : World} {mg : Str → Option Value} {base : Heap} {g : G} {f : Addr} {fd : FuncData} (F : Fun g.K "folded" "folded" s_folded f fd) (T : Txt mg g) (c_look_text : Cal P w g.K mg base 1 "look_text" (sp_look_text g)) : FnOk P w g.K mg base (L2.CX P w) 2 f fd ["text"] (sp_folded g) := by
  refine F.okX sc_folded (fun vs H Q E h => lift_len h) (fun cdv A outer s H vs Q E hr h => ⟨t_folded g (WF E), ?_, lift_body (by decide) (d_folded (g := g)) h⟩)
  have tk : Takes (cxOf (L2.CX P w) P w g.K mg base nm_folded "folded" (defScope s_folded) f cdv A outer s H E) (WF E) := takes_of rfl rfl rfl rfl
  skip
  exact (pss_cons (ps_expr (pe_c c_look_text hr (by decide) rfl tk (pa_cons (pv 0) (pa_cons (pe_gi (by rfl) T.c_MOST_ROW) pa_nil)))) (pss_one (ps_ret (pe_bm PySem.F.plainAttrs_str PySem.F.slot_str_join PySem.F.type_str_join mt_joinD (pe_strN (by decide +kernel)) (pa_cons (pe_lc (own := [("word", 1)]) (g := (gName 1)) (tt := (tTest (tOp (rNeA g.K) (tVar 1) (tC (.str (S [])))))) (te := (tVar 1)) rfl sc_folded.nd (pi_list (pe_bm PySem.F.plainAttrs_str PySem.F.slot_str_split PySem.F.type_str_split mt_splitD (pe_bm0 PySem.F.plainAttrs_str PySem.F.slot_str_lower PySem.F.type_str_lower mt_lowerD (pv 0)) (pa_cons (pe_strN (by decide +kernel)) pa_nil))) (blkOk_by (own := [("word", 1)]) (N := nm_folded) (sc := defScope s_folded) (by decide +kernel)) (fun _ _ _ _ _ => (pg_name (i := 1) sc_folded.nd rfl (by first | exact Or.inl rfl | exact Or.inr rfl))) (fun _ _ _ _ _ => (pts_one (pt_cmpR (op_neA hr.units) (pv 1) (pe_strN (by decide +kernel)) (nomark _)))) (fun _ _ _ _ _ => (pv 1))) pa_nil)))))
abbrev s_rank : Stmt := top 9
theorem sc_rank : FnScope nm_rank ["row", "query"] (defScope s_rank) := C8.fnScope_by (by decide +kernel)
theorem ok_rank {P : Program} {w : World} {mg : Str → Option Value} {base : Heap} {g : G} {f : Addr} {fd : FuncData} (F : Fun g.K "rank" "rank" s_rank f fd) (T : Txt mg g) (c_look_text : Cal P w g.K mg base 1 "look_text" (sp_look_text g)) (c_folded : Cal P w g.K mg base 2 "folded" (sp_folded g)) : FnOk P w g.K mg base (L2.CX P w) 3 f fd ["row", "query"] (sp_rank g) := by
  refine F.okX sc_rank (fun vs H Q E h => lift_len h) (fun cdv A outer s H vs Q E hr h => ⟨t_rank g (WF E), ?_, lift_body (by decide) (d_rank (g := g)) h⟩)
  have tk : Takes (cxOf (L2.CX P w) P w g.K mg base nm_rank "rank" (defScope s_rank) f cdv A outer s H E) (WF E) := takes_of rfl rfl rfl rfl
  skip
  exact (pss_cons (ps_expr (pe_c c_look_text hr (by decide) rfl tk (pa_cons (pv 1) (pa_cons (pe_gi (by rfl) T.c_MOST_TYPED) pa_nil)))) (pss_cons (ps_set (i := 2) sc_rank.nd rfl (by first | exact Or.inl rfl | exact Or.inr rfl) (pe_c c_folded hr (by decide) rfl tk (pa_cons (pv 0) pa_nil))) (pss_cons (ps_set (i := 3) sc_rank.nd rfl (by first | exact Or.inl rfl | exact Or.inr rfl) (pe_c c_folded hr (by decide) rfl tk (pa_cons (pv 1) pa_nil))) (pss_cons (ps_if (pt_cmpR (op_eqA hr.units) (pv 2) (pv 3) (nomark _)) (pss_one (ps_ret pe_int)) pss_nil) (pss_cons (ps_if (pt_val (pe_bm PySem.F.plainAttrs_str PySem.F.slot_str_startswith PySem.F.type_str_startswith mt_startsD (pv 2) (pa_cons (pv 3) pa_nil))) (pss_one (ps_ret pe_int)) pss_nil) (pss_cons (ps_if (pt_cmpR op_inA (pe_op op_addA (pe_strN (by decide +kernel)) (pv 3)) (pv 2) (by rfl)) (pss_one (ps_ret pe_int)) pss_nil) (pss_one (ps_ret (pe_ifExp (pt_cmpR op_inA (pv 3) (pv 2) (by rfl)) pe_int pe_non)))))))))
abbrev s_look_many : Stmt := top 12
theorem sc_look_many : FnScope nm_look_many ["many"] (defScope s_look_many) := C8.fnScope_by (by decide +kernel)
theorem ok_look_many {P : Program} {w : World} {mg : Str → Option Value} {base : Heap} {g : G} {f : Addr} {fd : FuncData} (F : Fun g.K "look_many" "look_many" s_look_many f fd) (T : Txt mg g)  : FnOk P w g.K mg base (L2.CX P w) 1 f fd ["many"] (sp_look_many g) := by
  refine F.okX sc_look_many (fun vs H Q E h => lift_len h) (fun cdv A outer s H vs Q E hr h => ⟨t_look_many g (WF E), ?_, lift_body (by decide) (d_look_many (g := g)) h⟩)
  have tk : Takes (cxOf (L2.CX P w) P w g.K mg base nm_look_many "look_many" (defScope s_look_many) f cdv A outer s H E) (WF E) := takes_of rfl rfl rfl rfl
  skip
  exact (pss_one (ps_if (pt_not (pt_chain op_le op_le pe_int (pv 0) (pe_gi (by rfl) T.c_MOST_ANSWER))) (pss_one (ps_raiseC T.x_BadNumber rfl tk rfl)) pss_nil))
abbrev s_best : Stmt := top 13
theorem sc_best : FnScope nm_best ["rows", "query", "many"] (defScope s_best) := C8.fnScope_by (by decide +kernel)
theorem ok_best {P : Program} {w : World} {mg : Str → Option Value} {base : Heap} {g : G} {f : Addr} {fd : FuncData} (F : Fun g.K "best" "best" s_best f fd) (T : Txt mg g) (c_folded : Cal P w g.K mg base 2 "folded" (sp_folded g)) (c_rank : Cal P w g.K mg base 3 "rank" (sp_rank g)) : FnOk P w g.K mg base (L2.CX P w) 4 f fd ["rows", "query", "many"] (sp_best g) := by
  refine F.okX sc_best (fun vs H Q E h => lift_len h) (fun cdv A outer s H vs Q E hr h => ⟨t_best g (WF E), ?_, lift_body (by decide) (d_best (g := g)) h⟩)
  have tk : Takes (cxOf (L2.CX P w) P w g.K mg base nm_best "best" (defScope s_best) f cdv A outer s H E) (WF E) := takes_of rfl rfl rfl rfl
  skip
  exact (pss_cons (by first | exact (ps_setLc (i := 3) (own := [("row", 4)]) (g := (gName 4)) (tt := tYes) (te := (tTup (tCons (tCallS (sp_rank g) (WE W0) (tCons (tVar 4) (tCons (tVar 1) tNil))) (tCons (tCallS (sp_folded g) (WE W0) (tCons (tVar 4) tNil)) (tCons (tVar 4) tNil))))) rfl sc_best.nd rfl rfl (sw_true rfl rfl rfl (by decide +kernel)) (pi_list (pv 0)) (blkOk_by (own := [("row", 4)]) (N := nm_best) (sc := defScope s_best) (by decide +kernel)) (fun _ _ _ _ _ => (pg_name (i := 4) sc_best.nd rfl (by first | exact Or.inl rfl | exact Or.inr rfl))) (fun _ _ _ _ _ => pts_nil) (fun _ _ _ _ _ => (pe_tup (pa_cons (pe_c c_rank hr (by decide) rfl takes0 (pa_cons (pv 4) (pa_cons (pv 1) pa_nil))) (pa_cons (pe_c c_folded hr (by decide) rfl takes0 (pa_cons (pv 4) pa_nil)) (pa_cons (pv 4) pa_nil)))))) | exact (ps_set (i := 3) sc_best.nd rfl (by first | exact Or.inl rfl | exact Or.inr rfl) (pe_lc (own := [("row", 4)]) (g := (gName 4)) (tt := tYes) (te := (tTup (tCons (tCallS (sp_rank g) (WE W0) (tCons (tVar 4) (tCons (tVar 1) tNil))) (tCons (tCallS (sp_folded g) (WE W0) (tCons (tVar 4) tNil)) (tCons (tVar 4) tNil))))) rfl sc_best.nd (pi_list (pv 0)) (blkOk_by (own := [("row", 4)]) (N := nm_best) (sc := defScope s_best) (by decide +kernel)) (fun _ _ _ _ _ => (pg_name (i := 4) sc_best.nd rfl (by first | exact Or.inl rfl | exact Or.inr rfl))) (fun _ _ _ _ _ => pts_nil) (fun _ _ _ _ _ => (pe_tup (pa_cons (pe_c c_rank hr (by decide) rfl takes0 (pa_cons (pv 4) (pa_cons (pv 1) pa_nil))) (pa_cons (pe_c c_folded hr (by decide) rfl takes0 (pa_cons (pv 4) pa_nil)) (pa_cons (pv 4) pa_nil)))))))) (pss_one (ps_ret (pe_slice sl_A (pe_lc (own := [("fits", 5), ("small", 6), ("row", 4)]) (g := (gTup g.K 3 (gCons (gName 5) (gCons (gName 6) (gCons (gName 4) gNil))))) (tt := tYes) (te := (tVar 4)) rfl sc_best.nd (pi_list (pe_callB (cr_sortA hr.units) (by rfl) T.b_sorted (by decide +kernel) (pa_cons (pe_lc (own := [("one", 7)]) (g := (gName 7)) (tt := (tTest (tOp (rNotNo) (tOp (rIx g.K) (tVar 7) (tC (.int 0))) (tC .non)))) (te := (tVar 7)) rfl sc_best.nd (pi_list (pv 3)) (blkOk_by (own := [("one", 7)]) (N := nm_best) (sc := defScope s_best) (by decide +kernel)) (fun _ _ _ _ _ => (pg_name (i := 7) sc_best.nd rfl (by first | exact Or.inl rfl | exact Or.inr rfl))) (fun _ _ _ _ _ => (pts_one (pt_cmpR op_notNo (pe_ix ix_seq (pv 7) pe_int (fun _ _ => rfl)) pe_non (nomark _)))) (fun _ _ _ _ _ => (pv 7))) pa_nil))) (blkOk_by (own := [("fits", 5), ("small", 6), ("row", 4)]) (N := nm_best) (sc := defScope s_best) (by decide +kernel)) (fun _ _ _ _ _ => (pg_tup rfl (pgs_cons (pg_name (i := 5) sc_best.nd rfl (by first | exact Or.inl rfl | exact Or.inr rfl)) (pgs_cons (pg_name (i := 6) sc_best.nd rfl (by first | exact Or.inl rfl | exact Or.inr rfl)) (pgs_cons (pg_name (i := 4) sc_best.nd rfl (by first | exact Or.inl rfl | exact Or.inr rfl)) pgs_nil))))) (fun _ _ _ _ _ => pts_nil) (fun _ _ _ _ _ => (pv 4))) po_none (po_some (pv 2))))))
abbrev s_look_rows : Stmt := top 17
theorem sc_look_rows : FnScope nm_look_rows ["rows"] (defScope s_look_rows) := C8.fnScope_by (by decide +kernel)
theorem ok_look_rows {P : Program} {w : World} {mg : Str → Option Value} {base : Heap} {g : G} {f : Addr} {fd : FuncData} (F : Fun g.K "look_rows" "look_rows" s_look_rows f fd) (T : Txt mg g) (c_look_text : Cal P w g.K mg base 1 "look_text" (sp_look_text g)) : FnOk P w g.K mg base (L2.CX P w) 2 f fd ["rows"] (sp_look_rows g) := by
  refine F.okX sc_look_rows (fun vs H Q E h => lift_len h) (fun cdv A outer s H vs Q E hr h => ⟨t_look_rows g (WF E), ?_, lift_body (by decide) (d_look_rows (g := g)) h⟩)
  have tk : Takes (cxOf (L2.CX P w) P w g.K mg base nm_look_rows "look_rows" (defScope s_look_rows) f cdv A outer s H E) (WF E) := takes_of rfl rfl rfl rfl
  have pw_own : PassesOwn (model P w) (cxOf (L2.CX P w) P w g.K mg base nm_look_rows "look_rows" (defScope s_look_rows) f cdv A outer s H E).A (cxOf (L2.CX P w) P w g.K mg base nm_look_rows "look_rows" (defScope s_look_rows) f cdv A outer s H E).env (cxOf (L2.CX P w) P w g.K mg base nm_look_rows "look_rows" (defScope s_look_rows) f cdv A outer s H E).xe := passes_of rfl
  exact (pss_one (ps_for pw_own rfl (pi_list (pv 0)) (pg_name (i := 1) sc_look_rows.nd rfl (by first | exact Or.inl rfl | exact Or.inr rfl)) (pss_one (ps_expr (pe_c c_look_text hr (by decide) rfl tk (pa_cons (pv 1) (pa_cons (pe_gi (by rfl) T.c_MOST_ROW) pa_nil)))))))
abbrev s_needed : Stmt := top 18
theorem sc_needed : FnScope nm_needed ["rows", "row", "many"] (defScope s_needed) := C8.fnScope_by (by decide +kernel)
theorem ok_needed {P : Program} {w : World} {mg : Str → Option Value} {base : Heap} {g : G} {f : Addr} {fd : FuncData} (F : Fun g.K "needed" "needed" s_needed f fd) (T : Txt mg g) (c_look_many : Cal P w g.K mg base 1 "look_many" (sp_look_many g)) (c_look_rows : Cal P w g.K mg base 2 "look_rows" (sp_look_rows g)) (c_look_text : Cal P w g.K mg base 1 "look_text" (sp_look_text g)) (c_folded : Cal P w g.K mg base 2 "folded" (sp_folded g)) (c_best : Cal P w g.K mg base 4 "best" (sp_best g)) : FnOk P w g.K mg base (L2.CX P w) 5 f fd ["rows", "row", "many"] (sp_needed g) := by
  refine F.okX sc_needed (fun vs H Q E h => lift_len h) (fun cdv A outer s H vs Q E hr h => ⟨t_needed g (WF E), ?_, lift_body (by decide) (d_needed (g := g)) h⟩)
  have tk : Takes (cxOf (L2.CX P w) P w g.K mg base nm_needed "needed" (defScope s_needed) f cdv A outer s H E) (WF E) := takes_of rfl rfl rfl rfl
  have pw_own : PassesOwn (model P w) (cxOf (L2.CX P w) P w g.K mg base nm_needed "needed" (defScope s_needed) f cdv A outer s H E).A (cxOf (L2.CX P w) P w g.K mg base nm_needed "needed" (defScope s_needed) f cdv A outer s H E).env (cxOf (L2.CX P w) P w g.K mg base nm_needed "needed" (defScope s_needed) f cdv A outer s H E).xe := passes_of rfl
  exact (pss_cons (ps_expr (pe_c c_look_many hr (by decide) rfl tk (pa_cons (pv 2) pa_nil))) (pss_cons (ps_expr (pe_c c_look_rows hr (by decide) rfl tk (pa_cons (pv 0) pa_nil))) (pss_cons (ps_expr (pe_c c_look_text hr (by decide) rfl tk (pa_cons (pv 1) (pa_cons (pe_gi (by rfl) T.c_MOST_ROW) pa_nil)))) (pss_cons (ps_set (i := 3) sc_needed.nd rfl (by first | exact Or.inl rfl | exact Or.inr rfl) (pe_c c_folded hr (by decide) rfl tk (pa_cons (pv 1) pa_nil))) (pss_cons (ps_for pw_own rfl (pi_range2 rfl T.b_range (pa_cons pe_int (pa_cons (pe_op op_addA (pe_callB (cr_min2 rfl) (by rfl) T.b_min (by decide +kernel) (pa_cons (pe_callB cr_lenA (by rfl) T.b_len (by decide +kernel) (pa_cons (pv 3) pa_nil)) (pa_cons (pe_gi (by rfl) T.c_MOST_TYPED) pa_nil))) pe_int) pa_nil))) (pg_name (i := 4) sc_needed.nd rfl (by first | exact Or.inl rfl | exact Or.inr rfl)) (pss_one (ps_if (pt_cmpR op_inA (pv 1) (pe_c c_best hr (by decide) rfl tk (pa_cons (pv 0) (pa_cons (pe_slice sl_A (pv 3) po_none (po_some (pv 4))) (pa_cons (pv 2) pa_nil)))) (by rfl)) (pss_one (ps_ret (pe_slice sl_A (pv 3) po_none (po_some (pv 4))))) pss_nil))) (pss_one (ps_ret pe_non)))))))
abbrev s_nexts : Stmt := top 19
theorem sc_nexts : FnScope nm_nexts ["rows", "query"] (defScope s_nexts) := C8.fnScope_by (by decide +kernel)
theorem ok_nexts {P : Program} {w : World} {mg : Str → Option Value} {base : Heap} {g : G} {f : Addr} {fd : FuncData} (F : Fun g.K "nexts" "nexts" s_nexts f fd) (T : Txt mg g) (c_look_text : Cal P w g.K mg base 1 "look_text" (sp_look_text g)) (c_look_rows : Cal P w g.K mg base 2 "look_rows" (sp_look_rows g)) (c_rank : Cal P w g.K mg base 3 "rank" (sp_rank g)) : FnOk P w g.K mg base (L2.CX P w) 4 f fd ["rows", "query"] (sp_nexts g) := by
  refine F.okX sc_nexts (fun vs H Q E h => lift_len h) (fun cdv A outer s H vs Q E hr h => ⟨t_nexts g (WF E), ?_, lift_body (by decide) (d_nexts (g := g)) h⟩)
  have tk : Takes (cxOf (L2.CX P w) P w g.K mg base nm_nexts "nexts" (defScope s_nexts) f cdv A outer s H E) (WF E) := takes_of rfl rfl rfl rfl
  have pw_own : PassesOwn (model P w) (cxOf (L2.CX P w) P w g.K mg base nm_nexts "nexts" (defScope s_nexts) f cdv A outer s H E).A (cxOf (L2.CX P w) P w g.K mg base nm_nexts "nexts" (defScope s_nexts) f cdv A outer s H E).env (cxOf (L2.CX P w) P w g.K mg base nm_nexts "nexts" (defScope s_nexts) f cdv A outer s H E).xe := passes_of rfl
  exact (pss_cons (ps_expr (pe_c c_look_text hr (by decide) rfl tk (pa_cons (pv 1) (pa_cons (pe_op op_sub (pe_gi (by rfl) T.c_MOST_TYPED) pe_int) pa_nil)))) (pss_cons (ps_expr (pe_c c_look_rows hr (by decide) rfl tk (pa_cons (pv 0) pa_nil))) (pss_cons (ps_set (i := 2) sc_nexts.nd rfl (by first | exact Or.inl rfl | exact Or.inr rfl) (pe_lst pa_nil)) (pss_cons (ps_for pw_own rfl (pi_str (pe_gsN (by rfl) T.c_SIGNS (by decide +kernel))) (pg_name (i := 3) sc_nexts.nd rfl (by first | exact Or.inl rfl | exact Or.inr rfl)) (pss_cons (ps_set (i := 4) sc_nexts.nd rfl (by first | exact Or.inl rfl | exact Or.inr rfl) (pe_callB cr_lenA (by rfl) T.b_len (by decide +kernel) (pa_cons (pe_lc (own := [("row", 5)]) (g := (gName 5)) (tt := (tTest (tOp (rNotNo) (tCallS (sp_rank g) (WE W0) (tCons (tVar 5) (tCons (tOp (rAddA g.K) (tVar 1) (tVar 3)) tNil))) (tC .non)))) (te := (tVar 5)) rfl sc_nexts.nd (pi_list (pv 0)) (blkOk_by (own := [("row", 5)]) (N := nm_nexts) (sc := defScope s_nexts) (by decide +kernel)) (fun _ _ _ _ _ => (pg_name (i := 5) sc_nexts.nd rfl (by first | exact Or.inl rfl | exact Or.inr rfl))) (fun _ _ _ _ _ => (pts_one (pt_cmpR op_notNo (pe_c c_rank hr (by decide) rfl takes0 (pa_cons (pv 5) (pa_cons (pe_op op_addA (pv 1) (pv 3)) pa_nil))) pe_non (nomark _)))) (fun _ _ _ _ _ => (pv 5))) pa_nil))) (pss_one (ps_if (pt_cmpR op_gt (pv 4) pe_int (nomark _)) (pss_one (ps_expr (pe_bm PySem.F.plainAttrs_list PySem.F.slot_list_append PySem.F.type_list_append mt_append (pv 2) (pa_cons (pe_tup (pa_cons (pv 3) (pa_cons (pv 4) pa_nil))) pa_nil)))) pss_nil)))) (pss_one (ps_ret (pv 2)))))))
abbrev s_alike : Stmt := top 20
theorem sc_alike : FnScope nm_alike ["rows"] (defScope s_alike) := C8.fnScope_by (by decide +kernel)
theorem ok_alike {P : Program} {w : World} {mg : Str → Option Value} {base : Heap} {g : G} {f : Addr} {fd : FuncData} (F : Fun g.K "alike" "alike" s_alike f fd) (T : Txt mg g) (c_look_rows : Cal P w g.K mg base 2 "look_rows" (sp_look_rows g)) (c_folded : Cal P w g.K mg base 2 "folded" (sp_folded g)) : FnOk P w g.K mg base (L2.CX P w) 3 f fd ["rows"] (sp_alike g) := by
  refine F.okX sc_alike (fun vs H Q E h => lift_len h) (fun cdv A outer s H vs Q E hr h => ⟨t_alike g (WF E), ?_, lift_body (by decide) (d_alike (g := g)) h⟩)
  have tk : Takes (cxOf (L2.CX P w) P w g.K mg base nm_alike "alike" (defScope s_alike) f cdv A outer s H E) (WF E) := takes_of rfl rfl rfl rfl
  have pw_own : PassesOwn (model P w) (cxOf (L2.CX P w) P w g.K mg base nm_alike "alike" (defScope s_alike) f cdv A outer s H E).A (cxOf (L2.CX P w) P w g.K mg base nm_alike "alike" (defScope s_alike) f cdv A outer s H E).env (cxOf (L2.CX P w) P w g.K mg base nm_alike "alike" (defScope s_alike) f cdv A outer s H E).xe := passes_of rfl
  exact (pss_cons (ps_expr (pe_c c_look_rows hr (by decide) rfl tk (pa_cons (pv 0) pa_nil))) (pss_cons (by first | exact (ps_setLc (i := 1) (own := [("row", 4)]) (g := (gName 4)) (tt := tYes) (te := (tCallS (sp_folded g) (WE W0) (tCons (tVar 4) tNil))) rfl sc_alike.nd rfl rfl (sw_true rfl rfl rfl (by decide +kernel)) (pi_list (pv 0)) (blkOk_by (own := [("row", 4)]) (N := nm_alike) (sc := defScope s_alike) (by decide +kernel)) (fun _ _ _ _ _ => (pg_name (i := 4) sc_alike.nd rfl (by first | exact Or.inl rfl | exact Or.inr rfl))) (fun _ _ _ _ _ => pts_nil) (fun _ _ _ _ _ => (pe_c c_folded hr (by decide) rfl takes0 (pa_cons (pv 4) pa_nil)))) | exact (ps_set (i := 1) sc_alike.nd rfl (by first | exact Or.inl rfl | exact Or.inr rfl) (pe_lc (own := [("row", 4)]) (g := (gName 4)) (tt := tYes) (te := (tCallS (sp_folded g) (WE W0) (tCons (tVar 4) tNil))) rfl sc_alike.nd (pi_list (pv 0)) (blkOk_by (own := [("row", 4)]) (N := nm_alike) (sc := defScope s_alike) (by decide +kernel)) (fun _ _ _ _ _ => (pg_name (i := 4) sc_alike.nd rfl (by first | exact Or.inl rfl | exact Or.inr rfl))) (fun _ _ _ _ _ => pts_nil) (fun _ _ _ _ _ => (pe_c c_folded hr (by decide) rfl takes0 (pa_cons (pv 4) pa_nil)))))) (pss_cons (ps_set (i := 2) sc_alike.nd rfl (by first | exact Or.inl rfl | exact Or.inr rfl) (pe_lst pa_nil)) (pss_cons (ps_for pw_own rfl (pi_range1 rfl T.b_range (pa_cons (pe_callB cr_lenA (by rfl) T.b_len (by decide +kernel) (pa_cons (pv 0) pa_nil)) pa_nil)) (pg_name (i := 3) sc_alike.nd rfl (by first | exact Or.inl rfl | exact Or.inr rfl)) (pss_one (ps_if (PW.pt (pw_and (pt_cmpR op_ninA (pe_ix ix_seq (pv 1) (pv 3) (fun _ _ => rfl)) (pe_slice sl_A (pv 1) po_none (po_some (pv 3))) (by rfl)) (pw_and1 (pt_cmpR op_gt (pe_bm PySem.F.plainAttrs_list PySem.F.slot_list_count PySem.F.type_list_count mt_cntF (pv 1) (pa_cons (pe_ix ix_seq (pv 1) (pv 3) (fun _ _ => rfl)) pa_nil)) pe_int (nomark _))))) (pss_one (ps_expr (pe_bm PySem.F.plainAttrs_list PySem.F.slot_list_append PySem.F.type_list_append mt_append (pv 2) (pa_cons (pe_lc (own := [("j", 5)]) (g := (gName 5)) (tt := (tTest (tOp (rEqA g.K) (tOp (rIx g.K) (tVar 1) (tVar 5)) (tOp (rIx g.K) (tVar 1) (tVar 3))))) (te := (tOp (rIx g.K) (tVar 0) (tVar 5))) rfl sc_alike.nd (pi_range1 rfl T.b_range (pa_cons (pe_callB cr_lenA (by rfl) T.b_len (by decide +kernel) (pa_cons (pv 0) pa_nil)) pa_nil)) (blkOk_by (own := [("j", 5)]) (N := nm_alike) (sc := defScope s_alike) (by decide +kernel)) (fun _ _ _ _ _ => (pg_name (i := 5) sc_alike.nd rfl (by first | exact Or.inl rfl | exact Or.inr rfl))) (fun _ _ _ _ _ => (pts_one (pt_cmpR (op_eqA hr.units) (pe_ix ix_seq (pv 1) (pv 5) (fun _ _ => rfl)) (pe_ix ix_seq (pv 1) (pv 3) (fun _ _ => rfl)) (nomark _)))) (fun _ _ _ _ _ => (pe_ix ix_seq (pv 0) (pv 5) (fun _ _ => rfl)))) pa_nil)))) pss_nil))) (pss_one (ps_ret (pv 2)))))))
abbrev s_by_rank : Stmt := top 21
theorem sc_by_rank : FnScope nm_by_rank ["rows", "query"] (defScope s_by_rank) := C8.fnScope_by (by decide +kernel)
theorem ok_by_rank {P : Program} {w : World} {mg : Str → Option Value} {base : Heap} {g : G} {f : Addr} {fd : FuncData} (F : Fun g.K "by_rank" "by_rank" s_by_rank f fd) (T : Txt mg g) (c_look_text : Cal P w g.K mg base 1 "look_text" (sp_look_text g)) (c_look_rows : Cal P w g.K mg base 2 "look_rows" (sp_look_rows g)) (c_rank : Cal P w g.K mg base 3 "rank" (sp_rank g)) : FnOk P w g.K mg base (L2.CX P w) 4 f fd ["rows", "query"] (sp_by_rank g) := by
  refine F.okX sc_by_rank (fun vs H Q E h => lift_len h) (fun cdv A outer s H vs Q E hr h => ⟨t_by_rank g (WF E), ?_, lift_body (by decide) (d_by_rank (g := g)) h⟩)
  have tk : Takes (cxOf (L2.CX P w) P w g.K mg base nm_by_rank "by_rank" (defScope s_by_rank) f cdv A outer s H E) (WF E) := takes_of rfl rfl rfl rfl
  skip
  exact (pss_cons (ps_expr (pe_c c_look_text hr (by decide) rfl tk (pa_cons (pv 1) (pa_cons (pe_gi (by rfl) T.c_MOST_TYPED) pa_nil)))) (pss_cons (ps_expr (pe_c c_look_rows hr (by decide) rfl tk (pa_cons (pv 0) pa_nil))) (pss_cons (by first | exact (ps_setLc (i := 2) (own := [("row", 3)]) (g := (gName 3)) (tt := tYes) (te := (tCallS (sp_rank g) (WE W0) (tCons (tVar 3) (tCons (tVar 1) tNil)))) rfl sc_by_rank.nd rfl rfl (sw_true rfl rfl rfl (by decide +kernel)) (pi_list (pv 0)) (blkOk_by (own := [("row", 3)]) (N := nm_by_rank) (sc := defScope s_by_rank) (by decide +kernel)) (fun _ _ _ _ _ => (pg_name (i := 3) sc_by_rank.nd rfl (by first | exact Or.inl rfl | exact Or.inr rfl))) (fun _ _ _ _ _ => pts_nil) (fun _ _ _ _ _ => (pe_c c_rank hr (by decide) rfl takes0 (pa_cons (pv 3) (pa_cons (pv 1) pa_nil))))) | exact (ps_set (i := 2) sc_by_rank.nd rfl (by first | exact Or.inl rfl | exact Or.inr rfl) (pe_lc (own := [("row", 3)]) (g := (gName 3)) (tt := tYes) (te := (tCallS (sp_rank g) (WE W0) (tCons (tVar 3) (tCons (tVar 1) tNil)))) rfl sc_by_rank.nd (pi_list (pv 0)) (blkOk_by (own := [("row", 3)]) (N := nm_by_rank) (sc := defScope s_by_rank) (by decide +kernel)) (fun _ _ _ _ _ => (pg_name (i := 3) sc_by_rank.nd rfl (by first | exact Or.inl rfl | exact Or.inr rfl))) (fun _ _ _ _ _ => pts_nil) (fun _ _ _ _ _ => (pe_c c_rank hr (by decide) rfl takes0 (pa_cons (pv 3) (pa_cons (pv 1) pa_nil))))))) (pss_one (ps_ret (pe_callTy cr_tupA (by rfl) T.b_tuple (by decide +kernel) (pa_cons (pe_lc (own := [("number", 4)]) (g := (gName 4)) (tt := tYes) (te := (tBM g.K "list" (rCntF g.K) (tVar 2) (tCons (tVar 4) tNil))) rfl sc_by_rank.nd (pi_range1 rfl T.b_range (pa_cons (pe_gi (by rfl) T.c_RANKS) pa_nil)) (blkOk_by (own := [("number", 4)]) (N := nm_by_rank) (sc := defScope s_by_rank) (by decide +kernel)) (fun _ _ _ _ _ => (pg_name (i := 4) sc_by_rank.nd rfl (by first | exact Or.inl rfl | exact Or.inr rfl))) (fun _ _ _ _ _ => pts_nil) (fun _ _ _ _ _ => (pe_bm PySem.F.plainAttrs_list PySem.F.slot_list_count PySem.F.type_list_count mt_cntF (pv 2) (pa_cons (pv 4) pa_nil)))) pa_nil)))))))
abbrev s_fewest_keys : Stmt := top 22
theorem sc_fewest_keys : FnScope nm_fewest_keys ["rows", "many"] (defScope s_fewest_keys) := C8.fnScope_by (by decide +kernel)
theorem ok_fewest_keys {P : Program} {w : World} {mg : Str → Option Value} {base : Heap} {g : G} {f : Addr} {fd : FuncData} (F : Fun g.K "fewest_keys" "fewest_keys" s_fewest_keys f fd) (T : Txt mg g) (c_look_many : Cal P w g.K mg base 1 "look_many" (sp_look_many g)) (c_look_rows : Cal P w g.K mg base 2 "look_rows" (sp_look_rows g)) (c_needed : Cal P w g.K mg base 5 "needed" (sp_needed g)) : FnOk P w g.K mg base (L2.CX P w) 6 f fd ["rows", "many"] (sp_fewest_keys g) := by
  refine F.okX sc_fewest_keys (fun vs H Q E h => lift_len h) (fun cdv A outer s H vs Q E hr h => ⟨t_fewest_keys g (WF E), ?_, lift_body (by decide) (d_fewest_keys (g := g)) h⟩)
  have tk : Takes (cxOf (L2.CX P w) P w g.K mg base nm_fewest_keys "fewest_keys" (defScope s_fewest_keys) f cdv A outer s H E) (WF E) := takes_of rfl rfl rfl rfl
  skip
  exact (pss_cons (ps_expr (pe_c c_look_many hr (by decide) rfl tk (pa_cons (pv 1) pa_nil))) (pss_cons (ps_expr (pe_c c_look_rows hr (by decide) rfl tk (pa_cons (pv 0) pa_nil))) (pss_cons (by first | exact (ps_setLc (i := 2) (own := [("row", 3)]) (g := (gName 3)) (tt := tYes) (te := (tCallS (sp_needed g) (WE W0) (tCons (tVar 0) (tCons (tVar 3) (tCons (tVar 1) tNil))))) rfl sc_fewest_keys.nd rfl rfl (sw_true rfl rfl rfl (by decide +kernel)) (pi_list (pv 0)) (blkOk_by (own := [("row", 3)]) (N := nm_fewest_keys) (sc := defScope s_fewest_keys) (by decide +kernel)) (fun _ _ _ _ _ => (pg_name (i := 3) sc_fewest_keys.nd rfl (by first | exact Or.inl rfl | exact Or.inr rfl))) (fun _ _ _ _ _ => pts_nil) (fun _ _ _ _ _ => (pe_c c_needed hr (by decide) rfl takes0 (pa_cons (pv 0) (pa_cons (pv 3) (pa_cons (pv 1) pa_nil)))))) | exact (ps_set (i := 2) sc_fewest_keys.nd rfl (by first | exact Or.inl rfl | exact Or.inr rfl) (pe_lc (own := [("row", 3)]) (g := (gName 3)) (tt := tYes) (te := (tCallS (sp_needed g) (WE W0) (tCons (tVar 0) (tCons (tVar 3) (tCons (tVar 1) tNil))))) rfl sc_fewest_keys.nd (pi_list (pv 0)) (blkOk_by (own := [("row", 3)]) (N := nm_fewest_keys) (sc := defScope s_fewest_keys) (by decide +kernel)) (fun _ _ _ _ _ => (pg_name (i := 3) sc_fewest_keys.nd rfl (by first | exact Or.inl rfl | exact Or.inr rfl))) (fun _ _ _ _ _ => pts_nil) (fun _ _ _ _ _ => (pe_c c_needed hr (by decide) rfl takes0 (pa_cons (pv 0) (pa_cons (pv 3) (pa_cons (pv 1) pa_nil)))))))) (pss_one (ps_ret (pe_lc (own := [("one", 4)]) (g := (gName 4)) (tt := tYes) (te := (tIf (tTest (tOp (rIsNo) (tVar 4) (tC .non))) (tC .non) (tCB (rLenA g.K) (tCons (tVar 4) tNil)))) rfl sc_fewest_keys.nd (pi_list (pv 2)) (blkOk_by (own := [("one", 4)]) (N := nm_fewest_keys) (sc := defScope s_fewest_keys) (by decide +kernel)) (fun _ _ _ _ _ => (pg_name (i := 4) sc_fewest_keys.nd rfl (by first | exact Or.inl rfl | exact Or.inr rfl))) (fun _ _ _ _ _ => pts_nil) (fun _ _ _ _ _ => (pe_ifExp (pt_cmpR op_isNo (pv 4) pe_non (nomark _)) pe_non (pe_callB cr_lenA (by rfl) T.b_len (by decide +kernel) (pa_cons (pv 4) pa_nil))))))))))
abbrev s__law_cell : Stmt := top 24
theorem sc__law_cell : FnScope nm__law_cell ["_law_script", "_law_k"] (defScope s__law_cell) := C8.fnScope_by (by decide +kernel)
theorem ok__law_cell {P : Program} {w : World} {mg : Str → Option Value} {base : Heap} {g : G} {f : Addr} {fd : FuncData} (F : Fun g.K "_law_cell" "_law_cell" s__law_cell f fd) (T : Txt mg g)  : FnOk P w g.K mg base (L2.CX P w) 1 f fd ["_law_script", "_law_k"] (sp__law_cell g) := by
  refine F.okX sc__law_cell (fun vs H Q E h => lift_len h) (fun cdv A outer s H vs Q E hr h => ⟨t__law_cell g (WF E), ?_, lift_body (by decide) (d__law_cell (g := g)) h⟩)
  have tk : Takes (cxOf (L2.CX P w) P w g.K mg base nm__law_cell "_law_cell" (defScope s__law_cell) f cdv A outer s H E) (WF E) := takes_of rfl rfl rfl rfl
  skip
  exact (pss_cons (ps_if (pt_truth (pv 0) (by intro _; rfl)) (pss_one (ps_ret (pe_ix ix_seq (pv 0) (pe_op op_mod (pv 1) (pe_callB cr_lenA (by rfl) T.b_len (by decide +kernel) (pa_cons (pv 0) pa_nil))) (fun _ _ => rfl)))) pss_nil) (pss_one (ps_ret pe_int)))
abbrev s__law_mix : Stmt := top 25
theorem sc__law_mix : FnScope nm__law_mix ["_law_script", "_law_k"] (defScope s__law_mix) := C8.fnScope_by (by decide +kernel)
theorem ok__law_mix {P : Program} {w : World} {mg : Str → Option Value} {base : Heap} {g : G} {f : Addr} {fd : FuncData} (F : Fun g.K "_law_mix" "_law_mix" s__law_mix f fd) (T : Txt mg g) (c__law_cell : Cal P w g.K mg base 1 "_law_cell" (sp__law_cell g)) : FnOk P w g.K mg base (L2.CX P w) 2 f fd ["_law_script", "_law_k"] (sp__law_mix g) := by
  refine F.okX sc__law_mix (fun vs H Q E h => lift_len h) (fun cdv A outer s H vs Q E hr h => ⟨t__law_mix g (WF E), ?_, lift_body (by decide) (d__law_mix (g := g)) h⟩)
  have tk : Takes (cxOf (L2.CX P w) P w g.K mg base nm__law_mix "_law_mix" (defScope s__law_mix) f cdv A outer s H E) (WF E) := takes_of rfl rfl rfl rfl
  skip
  exact (pss_cons (ps_set (i := 2) sc__law_mix.nd rfl (by first | exact Or.inl rfl | exact Or.inr rfl) (pe_op op_mod (pe_op op_addA (pe_c c__law_cell hr (by decide) rfl tk (pa_cons (pv 0) (pa_cons (pv 1) pa_nil))) (pe_op op_mulA pe_int (pe_op op_addA (pv 1) pe_int))) pe_int)) (pss_cons (ps_set (i := 2) sc__law_mix.nd rfl (by first | exact Or.inl rfl | exact Or.inr rfl) (pe_op op_mod (pe_op op_pow (pv 2) pe_int) pe_int)) (pss_one (ps_ret (pe_op op_mod (pe_op op_addA (pe_op op_mulA (pe_op op_fdiv (pv 2) pe_int) pe_int) (pv 2)) pe_int)))))
abbrev s__law_draw : Stmt := top 26
theorem sc__law_draw : FnScope nm__law_draw ["_law_script", "_law_town", "_law_many"] (defScope s__law_draw) := C8.fnScope_by (by decide +kernel)
theorem ok__law_draw {P : Program} {w : World} {mg : Str → Option Value} {base : Heap} {g : G} {f : Addr} {fd : FuncData} (F : Fun g.K "_law_draw" "_law_draw" s__law_draw f fd) (T : Txt mg g) (c__law_mix : Cal P w g.K mg base 2 "_law_mix" (sp__law_mix g)) : FnOk P w g.K mg base (L2.CX P w) 3 f fd ["_law_script", "_law_town", "_law_many"] (sp__law_draw g) := by
  refine F.okX sc__law_draw (fun vs H Q E h => lift_len h) (fun cdv A outer s H vs Q E hr h => ⟨t__law_draw g (WF E), ?_, lift_body (by decide) (d__law_draw (g := g)) h⟩)
  have tk : Takes (cxOf (L2.CX P w) P w g.K mg base nm__law_draw "_law_draw" (defScope s__law_draw) f cdv A outer s H E) (WF E) := takes_of rfl rfl rfl rfl
  skip
  exact (pss_cons (ps_expr (pe_bm PySem.F.plainAttrs_list PySem.F.slot_list_append PySem.F.type_list_append mt_append (pv 1) (pa_cons pe_int pa_nil))) (pss_one (ps_ret (pe_op op_mod (pe_op op_fdiv (pe_c c__law_mix hr (by decide) rfl tk (pa_cons (pv 0) (pa_cons (pe_callB cr_lenA (by rfl) T.b_len (by decide +kernel) (pa_cons (pv 1) pa_nil)) pa_nil))) pe_int) (pv 2)))))
abbrev s__law_pick : Stmt := top 27
theorem sc__law_pick : FnScope nm__law_pick ["_law_script", "_law_town", "_law_some"] (defScope s__law_pick) := C8.fnScope_by (by decide +kernel)
theorem ok__law_pick {P : Program} {w : World} {mg : Str → Option Value} {base : Heap} {g : G} {f : Addr} {fd : FuncData} (F : Fun g.K "_law_pick" "_law_pick" s__law_pick f fd) (T : Txt mg g) (c__law_draw : Cal P w g.K mg base 3 "_law_draw" (sp__law_draw g)) : FnOk P w g.K mg base (L2.CX P w) 4 f fd ["_law_script", "_law_town", "_law_some"] (sp__law_pick g) := by
  refine F.okX sc__law_pick (fun vs H Q E h => lift_len h) (fun cdv A outer s H vs Q E hr h => ⟨t__law_pick g (WF E), ?_, lift_body (by decide) (d__law_pick (g := g)) h⟩)
  have tk : Takes (cxOf (L2.CX P w) P w g.K mg base nm__law_pick "_law_pick" (defScope s__law_pick) f cdv A outer s H E) (WF E) := takes_of rfl rfl rfl rfl
  skip
  exact (pss_one (ps_ret (pe_ix ix_seq (pv 2) (pe_c c__law_draw hr (by decide) rfl tk (pa_cons (pv 0) (pa_cons (pv 1) (pa_cons (pe_callB cr_lenA (by rfl) T.b_len (by decide +kernel) (pa_cons (pv 2) pa_nil)) pa_nil)))) (fun _ _ => rfl))))
abbrev s__law_folded : Stmt := top 28
theorem sc__law_folded : FnScope nm__law_folded ["_law_text"] (defScope s__law_folded) := C8.fnScope_by (by decide +kernel)
theorem ok__law_folded {P : Program} {w : World} {mg : Str → Option Value} {base : Heap} {g : G} {f : Addr} {fd : FuncData} (F : Fun g.K "_law_folded" "_law_folded" s__law_folded f fd) (T : Txt mg g)  : FnOk P w g.K mg base (L2.CX P w) 1 f fd ["_law_text"] (sp__law_folded g) := by
  refine F.okX sc__law_folded (fun vs H Q E h => lift_len h) (fun cdv A outer s H vs Q E hr h => ⟨t__law_folded g (WF E), ?_, lift_body (by decide) (d__law_folded (g := g)) h⟩)
  have tk : Takes (cxOf (L2.CX P w) P w g.K mg base nm__law_folded "_law_folded" (defScope s__law_folded) f cdv A outer s H E) (WF E) := takes_of rfl rfl rfl rfl
  have pw_own : PassesOwn (model P w) (cxOf (L2.CX P w) P w g.K mg base nm__law_folded "_law_folded" (defScope s__law_folded) f cdv A outer s H E).A (cxOf (L2.CX P w) P w g.K mg base nm__law_folded "_law_folded" (defScope s__law_folded) f cdv A outer s H E).env (cxOf (L2.CX P w) P w g.K mg base nm__law_folded "_law_folded" (defScope s__law_folded) f cdv A outer s H E).xe := passes_of rfl
  exact (pss_cons (ps_set (i := 1) sc__law_folded.nd rfl (by first | exact Or.inl rfl | exact Or.inr rfl) (pe_strN (by decide +kernel))) (pss_cons (ps_for pw_own rfl (pi_str (pv 0)) (pg_name (i := 2) sc__law_folded.nd rfl (by first | exact Or.inl rfl | exact Or.inr rfl)) (pss_one (ps_if (pt_cmpR (op_neA hr.units) (pv 2) (pe_strN (by decide +kernel)) (nomark _)) (pss_one (ps_set (i := 1) sc__law_folded.nd rfl (by first | exact Or.inl rfl | exact Or.inr rfl) (pe_op op_addA (pv 1) (pe_bm0 PySem.F.plainAttrs_str PySem.F.slot_str_lower PySem.F.type_str_lower mt_lowerD (pv 2))))) (pss_one (ps_if (PW.pt (pw_and (pt_cmpR (op_neA hr.units) (pv 1) (pe_strN (by decide +kernel)) (nomark _)) (pw_and1 (pt_cmpR (op_neA hr.units) (pe_ix ix_seq (pv 1) (pe_un un_neg pe_int) (fun _ _ => rfl)) (pe_strN (by decide +kernel)) (nomark _))))) (pss_one (ps_set (i := 1) sc__law_folded.nd rfl (by first | exact Or.inl rfl | exact Or.inr rfl) (pe_op op_addA (pv 1) (pe_strN (by decide +kernel))))) pss_nil))))) (pss_one (ps_ret (pe_ifExp (pt_cmpR (op_eqA hr.units) (pe_slice sl_A (pv 1) (po_some (pe_un un_neg pe_int)) po_none) (pe_strN (by decide +kernel)) (nomark _)) (pe_slice sl_A (pv 1) po_none (po_some (pe_un un_neg pe_int))) (pv 1))))))
abbrev s__law_rank : Stmt := top 29
theorem sc__law_rank : FnScope nm__law_rank ["_law_row_here", "_law_query_here"] (defScope s__law_rank) := C8.fnScope_by (by decide +kernel)
theorem ok__law_rank {P : Program} {w : World} {mg : Str → Option Value} {base : Heap} {g : G} {f : Addr} {fd : FuncData} (F : Fun g.K "_law_rank" "_law_rank" s__law_rank f fd) (T : Txt mg g) (c__law_folded : Cal P w g.K mg base 1 "_law_folded" (sp__law_folded g)) : FnOk P w g.K mg base (L2.CX P w) 2 f fd ["_law_row_here", "_law_query_here"] (sp__law_rank g) := by
  refine F.okX sc__law_rank (fun vs H Q E h => lift_len h) (fun cdv A outer s H vs Q E hr h => ⟨t__law_rank g (WF E), ?_, lift_body (by decide) (d__law_rank (g := g)) h⟩)
  have tk : Takes (cxOf (L2.CX P w) P w g.K mg base nm__law_rank "_law_rank" (defScope s__law_rank) f cdv A outer s H E) (WF E) := takes_of rfl rfl rfl rfl
  skip
  exact (pss_cons (ps_set (i := 2) sc__law_rank.nd rfl (by first | exact Or.inl rfl | exact Or.inr rfl) (pe_c c__law_folded hr (by decide) rfl tk (pa_cons (pv 0) pa_nil))) (pss_cons (ps_set (i := 3) sc__law_rank.nd rfl (by first | exact Or.inl rfl | exact Or.inr rfl) (pe_c c__law_folded hr (by decide) rfl tk (pa_cons (pv 1) pa_nil))) (pss_cons (by first | exact (ps_setLc (i := 4) (own := [("_law_k", 5)]) (g := (gName 5)) (tt := (tTest (tOp (rEqA g.K) (tSl (rSlA g.K) (tVar 2) (tPart (tVar 5)) (tPart (tOp (rAddA g.K) (tVar 5) (tCB (rLenA g.K) (tCons (tVar 3) tNil))))) (tVar 3)))) (te := (tVar 5)) rfl sc__law_rank.nd rfl rfl (sw_true rfl rfl rfl (by decide +kernel)) (pi_range1 rfl T.b_range (pa_cons (pe_op op_addA (pe_callB cr_lenA (by rfl) T.b_len (by decide +kernel) (pa_cons (pv 2) pa_nil)) pe_int) pa_nil)) (blkOk_by (own := [("_law_k", 5)]) (N := nm__law_rank) (sc := defScope s__law_rank) (by decide +kernel)) (fun _ _ _ _ _ => (pg_name (i := 5) sc__law_rank.nd rfl (by first | exact Or.inl rfl | exact Or.inr rfl))) (fun _ _ _ _ _ => (pts_one (pt_cmpR (op_eqA hr.units) (pe_slice sl_A (pv 2) (po_some (pv 5)) (po_some (pe_op op_addA (pv 5) (pe_callB cr_lenA (by rfl) T.b_len (by decide +kernel) (pa_cons (pv 3) pa_nil))))) (pv 3) (nomark _)))) (fun _ _ _ _ _ => (pv 5))) | exact (ps_set (i := 4) sc__law_rank.nd rfl (by first | exact Or.inl rfl | exact Or.inr rfl) (pe_lc (own := [("_law_k", 5)]) (g := (gName 5)) (tt := (tTest (tOp (rEqA g.K) (tSl (rSlA g.K) (tVar 2) (tPart (tVar 5)) (tPart (tOp (rAddA g.K) (tVar 5) (tCB (rLenA g.K) (tCons (tVar 3) tNil))))) (tVar 3)))) (te := (tVar 5)) rfl sc__law_rank.nd (pi_range1 rfl T.b_range (pa_cons (pe_op op_addA (pe_callB cr_lenA (by rfl) T.b_len (by decide +kernel) (pa_cons (pv 2) pa_nil)) pe_int) pa_nil)) (blkOk_by (own := [("_law_k", 5)]) (N := nm__law_rank) (sc := defScope s__law_rank) (by decide +kernel)) (fun _ _ _ _ _ => (pg_name (i := 5) sc__law_rank.nd rfl (by first | exact Or.inl rfl | exact Or.inr rfl))) (fun _ _ _ _ _ => (pts_one (pt_cmpR (op_eqA hr.units) (pe_slice sl_A (pv 2) (po_some (pv 5)) (po_some (pe_op op_addA (pv 5) (pe_callB cr_lenA (by rfl) T.b_len (by decide +kernel) (pa_cons (pv 3) pa_nil))))) (pv 3) (nomark _)))) (fun _ _ _ _ _ => (pv 5))))) (pss_cons (ps_if (pt_cmpR (op_eqA hr.units) (pv 4) (pe_lst pa_nil) (nomark _)) (pss_one (ps_ret pe_non)) pss_nil) (pss_cons (ps_if (pt_cmpR (op_eqA hr.units) (pe_ix ix_seq (pv 4) pe_int (fun _ _ => rfl)) pe_int (nomark _)) (pss_one (ps_ret (pe_ifExp (pt_cmpR (op_eqA hr.units) (pe_callB cr_lenA (by rfl) T.b_len (by decide +kernel) (pa_cons (pv 2) pa_nil)) (pe_callB cr_lenA (by rfl) T.b_len (by decide +kernel) (pa_cons (pv 3) pa_nil)) (nomark _)) pe_int pe_int))) pss_nil) (pss_one (ps_ret (pe_ifExp (pt_cmpR (op_neA hr.units) (pe_lc (own := [("_law_k", 5)]) (g := (gName 5)) (tt := (tTest (tOp (rEqA g.K) (tOp (rIx g.K) (tVar 2) (tOp (rSubA) (tVar 5) (tC (.int 1)))) (tC (.str (S [32])))))) (te := (tVar 5)) rfl sc__law_rank.nd (pi_list (pv 4)) (blkOk_by (own := [("_law_k", 5)]) (N := nm__law_rank) (sc := defScope s__law_rank) (by decide +kernel)) (fun _ _ _ _ _ => (pg_name (i := 5) sc__law_rank.nd rfl (by first | exact Or.inl rfl | exact Or.inr rfl))) (fun _ _ _ _ _ => (pts_one (pt_cmpR (op_eqA hr.units) (pe_ix ix_seq (pv 2) (pe_op op_sub (pv 5) pe_int) (fun _ _ => rfl)) (pe_strN (by decide +kernel)) (nomark _)))) (fun _ _ _ _ _ => (pv 5))) (pe_lst pa_nil) (nomark _)) pe_int pe_int))))))))
abbrev s__law_best : Stmt := top 30
theorem sc__law_best : FnScope nm__law_best ["_law_rows_here", "_law_query_here", "_law_many"] (defScope s__law_best) := C8.fnScope_by (by decide +kernel)
theorem ok__law_best {P : Program} {w : World} {mg : Str → Option Value} {base : Heap} {g : G} {f : Addr} {fd : FuncData} (F : Fun g.K "_law_best" "_law_best" s__law_best f fd) (T : Txt mg g) (c__law_rank : Cal P w g.K mg base 2 "_law_rank" (sp__law_rank g)) (c__law_folded : Cal P w g.K mg base 1 "_law_folded" (sp__law_folded g)) : FnOk P w g.K mg base (L2.CX P w) 3 f fd ["_law_rows_here", "_law_query_here", "_law_many"] (sp__law_best g) := by
  refine F.okX sc__law_best (fun vs H Q E h => lift_len h) (fun cdv A outer s H vs Q E hr h => ⟨t__law_best g (WF E), ?_, lift_body (by decide) (d__law_best (g := g)) h⟩)
  have tk : Takes (cxOf (L2.CX P w) P w g.K mg base nm__law_best "_law_best" (defScope s__law_best) f cdv A outer s H E) (WF E) := takes_of rfl rfl rfl rfl
  have pw_own : PassesOwn (model P w) (cxOf (L2.CX P w) P w g.K mg base nm__law_best "_law_best" (defScope s__law_best) f cdv A outer s H E).A (cxOf (L2.CX P w) P w g.K mg base nm__law_best "_law_best" (defScope s__law_best) f cdv A outer s H E).env (cxOf (L2.CX P w) P w g.K mg base nm__law_best "_law_best" (defScope s__law_best) f cdv A outer s H E).xe := passes_of rfl
  exact (pss_cons (ps_set (i := 3) sc__law_best.nd rfl (by first | exact Or.inl rfl | exact Or.inr rfl) (pe_lst pa_nil)) (pss_cons (ps_for pw_own rfl (pi_list (pv 0)) (pg_name (i := 4) sc__law_best.nd rfl (by first | exact Or.inl rfl | exact Or.inr rfl)) (pss_cons (ps_set (i := 5) sc__law_best.nd rfl (by first | exact Or.inl rfl | exact Or.inr rfl) (pe_c c__law_rank hr (by decide) rfl tk (pa_cons (pv 4) (pa_cons (pv 1) pa_nil)))) (pss_one (ps_if (pt_cmpR op_notNo (pv 5) pe_non (nomark _)) (pss_one (ps_expr (pe_bm PySem.F.plainAttrs_list PySem.F.slot_list_append PySem.F.type_list_append mt_append (pv 3) (pa_cons (pe_tup (pa_cons (pv 5) (pa_cons (pe_c c__law_folded hr (by decide) rfl tk (pa_cons (pv 4) pa_nil)) (pa_cons (pv 4) pa_nil)))) pa_nil)))) pss_nil)))) (pss_one (ps_ret (pe_slice sl_A (pe_lc (own := [("_law_fits", 5), ("_law_small", 6), ("_law_row_here", 4)]) (g := (gTup g.K 3 (gCons (gName 5) (gCons (gName 6) (gCons (gName 4) gNil))))) (tt := tYes) (te := (tVar 4)) rfl sc__law_best.nd (pi_list (pe_callB (cr_sortA hr.units) (by rfl) T.b_sorted (by decide +kernel) (pa_cons (pv 3) pa_nil))) (blkOk_by (own := [("_law_fits", 5), ("_law_small", 6), ("_law_row_here", 4)]) (N := nm__law_best) (sc := defScope s__law_best) (by decide +kernel)) (fun _ _ _ _ _ => (pg_tup rfl (pgs_cons (pg_name (i := 5) sc__law_best.nd rfl (by first | exact Or.inl rfl | exact Or.inr rfl)) (pgs_cons (pg_name (i := 6) sc__law_best.nd rfl (by first | exact Or.inl rfl | exact Or.inr rfl)) (pgs_cons (pg_name (i := 4) sc__law_best.nd rfl (by first | exact Or.inl rfl | exact Or.inr rfl)) pgs_nil))))) (fun _ _ _ _ _ => pts_nil) (fun _ _ _ _ _ => (pv 4))) po_none (po_some (pv 2)))))))
abbrev s__law_row : Stmt := top 31
theorem sc__law_row : FnScope nm__law_row ["_law_script", "_law_town"] (defScope s__law_row) := C8.fnScope_by (by decide +kernel)
theorem ok__law_row {P : Program} {w : World} {mg : Str → Option Value} {base : Heap} {g : G} {f : Addr} {fd : FuncData} (F : Fun g.K "_law_row" "_law_row" s__law_row f fd) (T : Txt mg g) (c__law_draw : Cal P w g.K mg base 3 "_law_draw" (sp__law_draw g)) (c__law_pick : Cal P w g.K mg base 4 "_law_pick" (sp__law_pick g)) : FnOk P w g.K mg base (L2.CX P w) 5 f fd ["_law_script", "_law_town"] (sp__law_row g) := by
  refine F.okX sc__law_row (fun vs H Q E h => lift_len h) (fun cdv A outer s H vs Q E hr h => ⟨t__law_row g (WF E), ?_, lift_body (by decide) (d__law_row (g := g)) h⟩)
  have tk : Takes (cxOf (L2.CX P w) P w g.K mg base nm__law_row "_law_row" (defScope s__law_row) f cdv A outer s H E) (WF E) := takes_of rfl rfl rfl rfl
  have pw_own : PassesOwn (model P w) (cxOf (L2.CX P w) P w g.K mg base nm__law_row "_law_row" (defScope s__law_row) f cdv A outer s H E).A (cxOf (L2.CX P w) P w g.K mg base nm__law_row "_law_row" (defScope s__law_row) f cdv A outer s H E).env (cxOf (L2.CX P w) P w g.K mg base nm__law_row "_law_row" (defScope s__law_row) f cdv A outer s H E).xe := passes_of rfl
  exact (pss_cons (ps_set (i := 2) sc__law_row.nd rfl (by first | exact Or.inl rfl | exact Or.inr rfl) (pe_strN (by decide +kernel))) (pss_cons (ps_for pw_own rfl (pi_range1 rfl T.b_range (pa_cons (pe_op op_addA pe_int (pe_c c__law_draw hr (by decide) rfl tk (pa_cons (pv 0) (pa_cons (pv 1) (pa_cons pe_int pa_nil))))) pa_nil)) (pg_name (i := 3) sc__law_row.nd rfl (by first | exact Or.inl rfl | exact Or.inr rfl)) (pss_cons (ps_set (i := 2) sc__law_row.nd rfl (by first | exact Or.inl rfl | exact Or.inr rfl) (pe_op op_addA (pv 2) (pe_c c__law_pick hr (by decide) rfl tk (pa_cons (pv 0) (pa_cons (pv 1) (pa_cons (pe_lst (pa_cons (pe_strN (by decide +kernel)) (pa_cons (pe_strN (by decide +kernel)) (pa_cons (pe_strN (by decide +kernel)) (pa_cons (pe_strN (by decide +kernel)) (pa_cons (pe_strN (by decide +kernel)) (pa_cons (pe_strN (by decide +kernel)) (pa_cons (pe_strN (by decide +kernel)) pa_nil)))))))) pa_nil)))))) (pss_one (ps_set (i := 2) sc__law_row.nd rfl (by first | exact Or.inl rfl | exact Or.inr rfl) (pe_op op_addA (pv 2) (pe_c c__law_pick hr (by decide) rfl tk (pa_cons (pv 0) (pa_cons (pv 1) (pa_cons (pe_lst (pa_cons (pe_strN (by decide +kernel)) (pa_cons (pe_strN (by decide +kernel)) (pa_cons (pe_strN (by decide +kernel)) pa_nil)))) pa_nil))))))))) (pss_one (ps_ret (pv 2)))))
abbrev s__law_query : Stmt := top 32
theorem sc__law_query : FnScope nm__law_query ["_law_script", "_law_town"] (defScope s__law_query) := C8.fnScope_by (by decide +kernel)
theorem ok__law_query {P : Program} {w : World} {mg : Str → Option Value} {base : Heap} {g : G} {f : Addr} {fd : FuncData} (F : Fun g.K "_law_query" "_law_query" s__law_query f fd) (T : Txt mg g) (c__law_draw : Cal P w g.K mg base 3 "_law_draw" (sp__law_draw g)) (c__law_pick : Cal P w g.K mg base 4 "_law_pick" (sp__law_pick g)) : FnOk P w g.K mg base (L2.CX P w) 5 f fd ["_law_script", "_law_town"] (sp__law_query g) := by
  refine F.okX sc__law_query (fun vs H Q E h => lift_len h) (fun cdv A outer s H vs Q E hr h => ⟨t__law_query g (WF E), ?_, lift_body (by decide) (d__law_query (g := g)) h⟩)
  have tk : Takes (cxOf (L2.CX P w) P w g.K mg base nm__law_query "_law_query" (defScope s__law_query) f cdv A outer s H E) (WF E) := takes_of rfl rfl rfl rfl
  have pw_own : PassesOwn (model P w) (cxOf (L2.CX P w) P w g.K mg base nm__law_query "_law_query" (defScope s__law_query) f cdv A outer s H E).A (cxOf (L2.CX P w) P w g.K mg base nm__law_query "_law_query" (defScope s__law_query) f cdv A outer s H E).env (cxOf (L2.CX P w) P w g.K mg base nm__law_query "_law_query" (defScope s__law_query) f cdv A outer s H E).xe := passes_of rfl
  exact (pss_cons (ps_set (i := 2) sc__law_query.nd rfl (by first | exact Or.inl rfl | exact Or.inr rfl) (pe_strN (by decide +kernel))) (pss_cons (ps_for pw_own rfl (pi_range1 rfl T.b_range (pa_cons (pe_c c__law_draw hr (by decide) rfl tk (pa_cons (pv 0) (pa_cons (pv 1) (pa_cons pe_int pa_nil)))) pa_nil)) (pg_name (i := 3) sc__law_query.nd rfl (by first | exact Or.inl rfl | exact Or.inr rfl)) (pss_one (ps_set (i := 2) sc__law_query.nd rfl (by first | exact Or.inl rfl | exact Or.inr rfl) (pe_op op_addA (pv 2) (pe_c c__law_pick hr (by decide) rfl tk (pa_cons (pv 0) (pa_cons (pv 1) (pa_cons (pe_lst (pa_cons (pe_strN (by decide +kernel)) (pa_cons (pe_strN (by decide +kernel)) (pa_cons (pe_strN (by decide +kernel)) (pa_cons (pe_strN (by decide +kernel)) (pa_cons (pe_strN (by decide +kernel)) (pa_cons (pe_strN (by decide +kernel)) pa_nil))))))) pa_nil)))))))) (pss_one (ps_ret (pv 2)))))
abbrev s__law_rows : Stmt := top 33
theorem sc__law_rows : FnScope nm__law_rows ["_law_script", "_law_town"] (defScope s__law_rows) := C8.fnScope_by (by decide +kernel)
theorem ok__law_rows {P : Program} {w : World} {mg : Str → Option Value} {base : Heap} {g : G} {f : Addr} {fd : FuncData} (F : Fun g.K "_law_rows" "_law_rows" s__law_rows f fd) (T : Txt mg g) (c__law_draw : Cal P w g.K mg base 3 "_law_draw" (sp__law_draw g)) (c__law_row : Cal P w g.K mg base 5 "_law_row" (sp__law_row g)) (c__law_pick : Cal P w g.K mg base 4 "_law_pick" (sp__law_pick g)) : FnOk P w g.K mg base (L2.CX P w) 6 f fd ["_law_script", "_law_town"] (sp__law_rows g) := by
  refine F.okX sc__law_rows (fun vs H Q E h => lift_len h) (fun cdv A outer s H vs Q E hr h => ⟨t__law_rows g (WF E), ?_, lift_body (by decide) (d__law_rows (g := g)) h⟩)
  have tk : Takes (cxOf (L2.CX P w) P w g.K mg base nm__law_rows "_law_rows" (defScope s__law_rows) f cdv A outer s H E) (WF E) := takes_of rfl rfl rfl rfl
  have pw_own : PassesOwn (model P w) (cxOf (L2.CX P w) P w g.K mg base nm__law_rows "_law_rows" (defScope s__law_rows) f cdv A outer s H E).A (cxOf (L2.CX P w) P w g.K mg base nm__law_rows "_law_rows" (defScope s__law_rows) f cdv A outer s H E).env (cxOf (L2.CX P w) P w g.K mg base nm__law_rows "_law_rows" (defScope s__law_rows) f cdv A outer s H E).xe := passes_of rfl
  exact (pss_cons (by first | exact (ps_setLc (i := 2) (own := [("_law_k", 3)]) (g := (gName 3)) (tt := tYes) (te := (tCallS (sp__law_row g) (WE W0) (tCons (tVar 0) (tCons (tVar 1) tNil)))) rfl sc__law_rows.nd rfl rfl (sw_true rfl rfl rfl (by decide +kernel)) (pi_range1 rfl T.b_range (pa_cons (pe_c c__law_draw hr (by decide) rfl tk (pa_cons (pv 0) (pa_cons (pv 1) (pa_cons pe_int pa_nil)))) pa_nil)) (blkOk_by (own := [("_law_k", 3)]) (N := nm__law_rows) (sc := defScope s__law_rows) (by decide +kernel)) (fun _ _ _ _ _ => (pg_name (i := 3) sc__law_rows.nd rfl (by first | exact Or.inl rfl | exact Or.inr rfl))) (fun _ _ _ _ _ => pts_nil) (fun _ _ _ _ _ => (pe_c c__law_row hr (by decide) rfl takes0 (pa_cons (pv 0) (pa_cons (pv 1) pa_nil))))) | exact (ps_set (i := 2) sc__law_rows.nd rfl (by first | exact Or.inl rfl | exact Or.inr rfl) (pe_lc (own := [("_law_k", 3)]) (g := (gName 3)) (tt := tYes) (te := (tCallS (sp__law_row g) (WE W0) (tCons (tVar 0) (tCons (tVar 1) tNil)))) rfl sc__law_rows.nd (pi_range1 rfl T.b_range (pa_cons (pe_c c__law_draw hr (by decide) rfl tk (pa_cons (pv 0) (pa_cons (pv 1) (pa_cons pe_int pa_nil)))) pa_nil)) (blkOk_by (own := [("_law_k", 3)]) (N := nm__law_rows) (sc := defScope s__law_rows) (by decide +kernel)) (fun _ _ _ _ _ => (pg_name (i := 3) sc__law_rows.nd rfl (by first | exact Or.inl rfl | exact Or.inr rfl))) (fun _ _ _ _ _ => pts_nil) (fun _ _ _ _ _ => (pe_c c__law_row hr (by decide) rfl takes0 (pa_cons (pv 0) (pa_cons (pv 1) pa_nil))))))) (pss_cons (ps_for pw_own rfl (pi_range1 rfl T.b_range (pa_cons (pe_c c__law_draw hr (by decide) rfl tk (pa_cons (pv 0) (pa_cons (pv 1) (pa_cons pe_int pa_nil)))) pa_nil)) (pg_name (i := 3) sc__law_rows.nd rfl (by first | exact Or.inl rfl | exact Or.inr rfl)) (pss_cons (ps_set (i := 4) sc__law_rows.nd rfl (by first | exact Or.inl rfl | exact Or.inr rfl) (pe_c c__law_pick hr (by decide) rfl tk (pa_cons (pv 0) (pa_cons (pv 1) (pa_cons (pe_op op_addA (pv 2) (pe_lst (pa_cons (pe_strN (by decide +kernel)) pa_nil))) pa_nil))))) (pss_one (ps_expr (pe_bm PySem.F.plainAttrs_list PySem.F.slot_list_append PySem.F.type_list_append mt_append (pv 2) (pa_cons (pe_c c__law_pick hr (by decide) rfl tk (pa_cons (pv 0) (pa_cons (pv 1) (pa_cons (pe_lst (pa_cons (pv 4) (pa_cons (pe_bm0 PySem.F.plainAttrs_str PySem.F.slot_str_upper PySem.F.type_str_upper mt_upperD (pv 4)) (pa_cons (pe_slice sl_A (pe_op op_addA (pe_strN (by decide +kernel)) (pv 4)) po_none (po_some pe_int)) pa_nil)))) pa_nil)))) pa_nil)))))) (pss_one (ps_ret (pv 2)))))
abbrev s__law_needed : Stmt := top 34
theorem sc__law_needed : FnScope nm__law_needed ["_law_rows_here", "_law_row_here", "_law_many"] (defScope s__law_needed) := C8.fnScope_by (by decide +kernel)
theorem ok__law_needed {P : Program} {w : World} {mg : Str → Option Value} {base : Heap} {g : G} {f : Addr} {fd : FuncData} (F : Fun g.K "_law_needed" "_law_needed" s__law_needed f fd) (T : Txt mg g) (c__law_folded : Cal P w g.K mg base 1 "_law_folded" (sp__law_folded g)) (c__law_best : Cal P w g.K mg base 3 "_law_best" (sp__law_best g)) : FnOk P w g.K mg base (L2.CX P w) 4 f fd ["_law_rows_here", "_law_row_here", "_law_many"] (sp__law_needed g) := by
  refine F.okX sc__law_needed (fun vs H Q E h => lift_len h) (fun cdv A outer s H vs Q E hr h => ⟨t__law_needed g (WF E), ?_, lift_body (by decide) (d__law_needed (g := g)) h⟩)
  have tk : Takes (cxOf (L2.CX P w) P w g.K mg base nm__law_needed "_law_needed" (defScope s__law_needed) f cdv A outer s H E) (WF E) := takes_of rfl rfl rfl rfl
  skip
  exact (pss_cons (ps_set (i := 3) sc__law_needed.nd rfl (by first | exact Or.inl rfl | exact Or.inr rfl) (pe_c c__law_folded hr (by decide) rfl tk (pa_cons (pv 1) pa_nil))) (pss_cons (by first | exact (ps_setLc (i := 4) (own := [("_law_size", 6)]) (g := (gName 6)) (tt := tYes) (te := (tSl (rSlA g.K) (tVar 3) tNoPart (tPart (tVar 6)))) rfl sc__law_needed.nd rfl rfl (sw_true rfl rfl rfl (by decide +kernel)) (pi_range2 rfl T.b_range (pa_cons pe_int (pa_cons (pe_op op_addA (pe_callB (cr_min2 rfl) (by rfl) T.b_min (by decide +kernel) (pa_cons pe_int (pa_cons (pe_callB cr_lenA (by rfl) T.b_len (by decide +kernel) (pa_cons (pv 3) pa_nil)) pa_nil))) pe_int) pa_nil))) (blkOk_by (own := [("_law_size", 6)]) (N := nm__law_needed) (sc := defScope s__law_needed) (by decide +kernel)) (fun _ _ _ _ _ => (pg_name (i := 6) sc__law_needed.nd rfl (by first | exact Or.inl rfl | exact Or.inr rfl))) (fun _ _ _ _ _ => pts_nil) (fun _ _ _ _ _ => (pe_slice sl_A (pv 3) po_none (po_some (pv 6))))) | exact (ps_set (i := 4) sc__law_needed.nd rfl (by first | exact Or.inl rfl | exact Or.inr rfl) (pe_lc (own := [("_law_size", 6)]) (g := (gName 6)) (tt := tYes) (te := (tSl (rSlA g.K) (tVar 3) tNoPart (tPart (tVar 6)))) rfl sc__law_needed.nd (pi_range2 rfl T.b_range (pa_cons pe_int (pa_cons (pe_op op_addA (pe_callB (cr_min2 rfl) (by rfl) T.b_min (by decide +kernel) (pa_cons pe_int (pa_cons (pe_callB cr_lenA (by rfl) T.b_len (by decide +kernel) (pa_cons (pv 3) pa_nil)) pa_nil))) pe_int) pa_nil))) (blkOk_by (own := [("_law_size", 6)]) (N := nm__law_needed) (sc := defScope s__law_needed) (by decide +kernel)) (fun _ _ _ _ _ => (pg_name (i := 6) sc__law_needed.nd rfl (by first | exact Or.inl rfl | exact Or.inr rfl))) (fun _ _ _ _ _ => pts_nil) (fun _ _ _ _ _ => (pe_slice sl_A (pv 3) po_none (po_some (pv 6))))))) (pss_cons (by first | exact (ps_setLc (i := 5) (own := [("_law_one", 7)]) (g := (gName 7)) (tt := (tTest (tOp (rInA g.K) (tVar 1) (tCallS (sp__law_best g) (WE W0) (tCons (tVar 0) (tCons (tVar 7) (tCons (tVar 2) tNil))))))) (te := (tVar 7)) rfl sc__law_needed.nd rfl rfl (sw_true rfl rfl rfl (by decide +kernel)) (pi_list (pv 4)) (blkOk_by (own := [("_law_one", 7)]) (N := nm__law_needed) (sc := defScope s__law_needed) (by decide +kernel)) (fun _ _ _ _ _ => (pg_name (i := 7) sc__law_needed.nd rfl (by first | exact Or.inl rfl | exact Or.inr rfl))) (fun _ _ _ _ _ => (pts_one (pt_cmpR op_inA (pv 1) (pe_c c__law_best hr (by decide) rfl takes0 (pa_cons (pv 0) (pa_cons (pv 7) (pa_cons (pv 2) pa_nil)))) (by rfl)))) (fun _ _ _ _ _ => (pv 7))) | exact (ps_set (i := 5) sc__law_needed.nd rfl (by first | exact Or.inl rfl | exact Or.inr rfl) (pe_lc (own := [("_law_one", 7)]) (g := (gName 7)) (tt := (tTest (tOp (rInA g.K) (tVar 1) (tCallS (sp__law_best g) (WE W0) (tCons (tVar 0) (tCons (tVar 7) (tCons (tVar 2) tNil))))))) (te := (tVar 7)) rfl sc__law_needed.nd (pi_list (pv 4)) (blkOk_by (own := [("_law_one", 7)]) (N := nm__law_needed) (sc := defScope s__law_needed) (by decide +kernel)) (fun _ _ _ _ _ => (pg_name (i := 7) sc__law_needed.nd rfl (by first | exact Or.inl rfl | exact Or.inr rfl))) (fun _ _ _ _ _ => (pts_one (pt_cmpR op_inA (pv 1) (pe_c c__law_best hr (by decide) rfl takes0 (pa_cons (pv 0) (pa_cons (pv 7) (pa_cons (pv 2) pa_nil)))) (by rfl)))) (fun _ _ _ _ _ => (pv 7))))) (pss_one (ps_ret (pe_ifExp (pt_cmpR (op_neA hr.units) (pv 5) (pe_lst pa_nil) (nomark _)) (pe_ix ix_seq (pv 5) pe_int (fun _ _ => rfl)) pe_non))))))
abbrev s__law_groups : Stmt := top 35
theorem sc__law_groups : FnScope nm__law_groups ["_law_rows_here"] (defScope s__law_groups) := C8.fnScope_by (by decide +kernel)
theorem ok__law_groups {P : Program} {w : World} {mg : Str → Option Value} {base : Heap} {g : G} {f : Addr} {fd : FuncData} (F : Fun g.K "_law_groups" "_law_groups" s__law_groups f fd) (T : Txt mg g) (c__law_folded : Cal P w g.K mg base 1 "_law_folded" (sp__law_folded g)) : FnOk P w g.K mg base (L2.CX P w) 2 f fd ["_law_rows_here"] (sp__law_groups g) := by
  refine F.okX sc__law_groups (fun vs H Q E h => lift_len h) (fun cdv A outer s H vs Q E hr h => ⟨t__law_groups g (WF E), ?_, lift_body (by decide) (d__law_groups (g := g)) h⟩)
  have tk : Takes (cxOf (L2.CX P w) P w g.K mg base nm__law_groups "_law_groups" (defScope s__law_groups) f cdv A outer s H E) (WF E) := takes_of rfl rfl rfl rfl
  have pw_own : PassesOwn (model P w) (cxOf (L2.CX P w) P w g.K mg base nm__law_groups "_law_groups" (defScope s__law_groups) f cdv A outer s H E).A (cxOf (L2.CX P w) P w g.K mg base nm__law_groups "_law_groups" (defScope s__law_groups) f cdv A outer s H E).env (cxOf (L2.CX P w) P w g.K mg base nm__law_groups "_law_groups" (defScope s__law_groups) f cdv A outer s H E).xe := passes_of rfl
  exact (pss_cons (by first | exact (ps_setLc (i := 1) (own := [("_law_row_here", 5)]) (g := (gName 5)) (tt := tYes) (te := (tCallS (sp__law_folded g) (WE W0) (tCons (tVar 5) tNil))) rfl sc__law_groups.nd rfl rfl (sw_true rfl rfl rfl (by decide +kernel)) (pi_list (pv 0)) (blkOk_by (own := [("_law_row_here", 5)]) (N := nm__law_groups) (sc := defScope s__law_groups) (by decide +kernel)) (fun _ _ _ _ _ => (pg_name (i := 5) sc__law_groups.nd rfl (by first | exact Or.inl rfl | exact Or.inr rfl))) (fun _ _ _ _ _ => pts_nil) (fun _ _ _ _ _ => (pe_c c__law_folded hr (by decide) rfl takes0 (pa_cons (pv 5) pa_nil)))) | exact (ps_set (i := 1) sc__law_groups.nd rfl (by first | exact Or.inl rfl | exact Or.inr rfl) (pe_lc (own := [("_law_row_here", 5)]) (g := (gName 5)) (tt := tYes) (te := (tCallS (sp__law_folded g) (WE W0) (tCons (tVar 5) tNil))) rfl sc__law_groups.nd (pi_list (pv 0)) (blkOk_by (own := [("_law_row_here", 5)]) (N := nm__law_groups) (sc := defScope s__law_groups) (by decide +kernel)) (fun _ _ _ _ _ => (pg_name (i := 5) sc__law_groups.nd rfl (by first | exact Or.inl rfl | exact Or.inr rfl))) (fun _ _ _ _ _ => pts_nil) (fun _ _ _ _ _ => (pe_c c__law_folded hr (by decide) rfl takes0 (pa_cons (pv 5) pa_nil)))))) (pss_cons (ps_set (i := 2) sc__law_groups.nd rfl (by first | exact Or.inl rfl | exact Or.inr rfl) (pe_lst pa_nil)) (pss_cons (ps_for pw_own rfl (pi_range1 rfl T.b_range (pa_cons (pe_callB cr_lenA (by rfl) T.b_len (by decide +kernel) (pa_cons (pv 0) pa_nil)) pa_nil)) (pg_name (i := 3) sc__law_groups.nd rfl (by first | exact Or.inl rfl | exact Or.inr rfl)) (pss_cons (by first | exact (ps_setLc (i := 4) (own := [("_law_j", 6)]) (g := (gName 6)) (tt := (tTest (tOp (rEqA g.K) (tOp (rIx g.K) (tVar 1) (tVar 6)) (tOp (rIx g.K) (tVar 1) (tVar 3))))) (te := (tOp (rIx g.K) (tVar 0) (tVar 6))) rfl sc__law_groups.nd rfl rfl (sw_true rfl rfl rfl (by decide +kernel)) (pi_range1 rfl T.b_range (pa_cons (pe_callB cr_lenA (by rfl) T.b_len (by decide +kernel) (pa_cons (pv 0) pa_nil)) pa_nil)) (blkOk_by (own := [("_law_j", 6)]) (N := nm__law_groups) (sc := defScope s__law_groups) (by decide +kernel)) (fun _ _ _ _ _ => (pg_name (i := 6) sc__law_groups.nd rfl (by first | exact Or.inl rfl | exact Or.inr rfl))) (fun _ _ _ _ _ => (pts_one (pt_cmpR (op_eqA hr.units) (pe_ix ix_seq (pv 1) (pv 6) (fun _ _ => rfl)) (pe_ix ix_seq (pv 1) (pv 3) (fun _ _ => rfl)) (nomark _)))) (fun _ _ _ _ _ => (pe_ix ix_seq (pv 0) (pv 6) (fun _ _ => rfl)))) | exact (ps_set (i := 4) sc__law_groups.nd rfl (by first | exact Or.inl rfl | exact Or.inr rfl) (pe_lc (own := [("_law_j", 6)]) (g := (gName 6)) (tt := (tTest (tOp (rEqA g.K) (tOp (rIx g.K) (tVar 1) (tVar 6)) (tOp (rIx g.K) (tVar 1) (tVar 3))))) (te := (tOp (rIx g.K) (tVar 0) (tVar 6))) rfl sc__law_groups.nd (pi_range1 rfl T.b_range (pa_cons (pe_callB cr_lenA (by rfl) T.b_len (by decide +kernel) (pa_cons (pv 0) pa_nil)) pa_nil)) (blkOk_by (own := [("_law_j", 6)]) (N := nm__law_groups) (sc := defScope s__law_groups) (by decide +kernel)) (fun _ _ _ _ _ => (pg_name (i := 6) sc__law_groups.nd rfl (by first | exact Or.inl rfl | exact Or.inr rfl))) (fun _ _ _ _ _ => (pts_one (pt_cmpR (op_eqA hr.units) (pe_ix ix_seq (pv 1) (pv 6) (fun _ _ => rfl)) (pe_ix ix_seq (pv 1) (pv 3) (fun _ _ => rfl)) (nomark _)))) (fun _ _ _ _ _ => (pe_ix ix_seq (pv 0) (pv 6) (fun _ _ => rfl)))))) (pss_one (ps_if (PW.pt (pw_and (pt_cmpR op_gt (pe_callB cr_lenA (by rfl) T.b_len (by decide +kernel) (pa_cons (pv 4) pa_nil)) pe_int (nomark _)) (pw_and1 (pt_cmpR op_ninA (pe_ix ix_seq (pv 1) (pv 3) (fun _ _ => rfl)) (pe_slice sl_A (pv 1) po_none (po_some (pv 3))) (by rfl))))) (pss_one (ps_expr (pe_bm PySem.F.plainAttrs_list PySem.F.slot_list_append PySem.F.type_list_append mt_append (pv 2) (pa_cons (pv 4) pa_nil)))) pss_nil)))) (pss_one (ps_ret (pv 2))))))
abbrev s_law : Stmt := top 36
theorem sc_law : FnScope nm_law ["_law_script"] (defScope s_law) := C8.fnScope_by (by decide +kernel)
theorem ok_law {P : Program} {w : World} {mg : Str → Option Value} {base : Heap} {g : G} {f : Addr} {fd : FuncData} (F : Fun g.K "law" "law" s_law f fd) (T : Txt mg g) (c__law_rows : Cal P w g.K mg base 6 "_law_rows" (sp__law_rows g)) (c__law_draw : Cal P w g.K mg base 3 "_law_draw" (sp__law_draw g)) (c__law_pick : Cal P w g.K mg base 4 "_law_pick" (sp__law_pick g)) (c__law_needed : Cal P w g.K mg base 4 "_law_needed" (sp__law_needed g)) (c_needed : Cal P w g.K mg base 5 "needed" (sp_needed g)) (c_fewest_keys : Cal P w g.K mg base 6 "fewest_keys" (sp_fewest_keys g)) (c_best : Cal P w g.K mg base 4 "best" (sp_best g)) (c__law_query : Cal P w g.K mg base 5 "_law_query" (sp__law_query g)) (c__law_folded : Cal P w g.K mg base 1 "_law_folded" (sp__law_folded g)) (c__law_rank : Cal P w g.K mg base 2 "_law_rank" (sp__law_rank g)) (c_nexts : Cal P w g.K mg base 4 "nexts" (sp_nexts g)) (c_alike : Cal P w g.K mg base 3 "alike" (sp_alike g)) (c__law_groups : Cal P w g.K mg base 2 "_law_groups" (sp__law_groups g)) (c_by_rank : Cal P w g.K mg base 4 "by_rank" (sp_by_rank g)) : FnOk P w g.K mg base (L2.CX P w) 7 f fd ["_law_script"] (sp_law g) := by
  refine F.okX sc_law (fun vs H Q E h => lift_len h) (fun cdv A outer s H vs Q E hr h => ⟨t_law g (WF E), ?_, lift_body (by decide) (d_law (g := g)) h⟩)
  have tk : Takes (cxOf (L2.CX P w) P w g.K mg base nm_law "law" (defScope s_law) f cdv A outer s H E) (WF E) := takes_of rfl rfl rfl rfl
  have pw_own : PassesOwn (model P w) (cxOf (L2.CX P w) P w g.K mg base nm_law "law" (defScope s_law) f cdv A outer s H E).A (cxOf (L2.CX P w) P w g.K mg base nm_law "law" (defScope s_law) f cdv A outer s H E).env (cxOf (L2.CX P w) P w g.K mg base nm_law "law" (defScope s_law) f cdv A outer s H E).xe := passes_of rfl
  exact (pss_cons (ps_set (i := 1) sc_law.nd rfl (by first | exact Or.inl rfl | exact Or.inr rfl) (pe_lst pa_nil)) (pss_cons (ps_set (i := 2) sc_law.nd rfl (by first | exact Or.inl rfl | exact Or.inr rfl) (pe_c c__law_rows hr (by decide) rfl tk (pa_cons (pv 0) (pa_cons (pv 1) pa_nil)))) (pss_cons (ps_set (i := 3) sc_law.nd rfl (by first | exact Or.inl rfl | exact Or.inr rfl) (pe_op op_addA pe_int (pe_c c__law_draw hr (by decide) rfl tk (pa_cons (pv 0) (pa_cons (pv 1) (pa_cons pe_int pa_nil)))))) (pss_cons (ps_if (pt_cmpR (op_eqA hr.units) (pe_c c__law_draw hr (by decide) rfl tk (pa_cons (pv 0) (pa_cons (pv 1) (pa_cons pe_int pa_nil)))) pe_int (nomark _)) (pss_cons (ps_set (i := 4) sc_law.nd rfl (by first | exact Or.inl rfl | exact Or.inr rfl) (pe_lst (pa_cons (pe_lst (pa_cons (pe_strN (by decide +kernel)) (pa_cons (pe_strN (by decide +kernel)) pa_nil))) (pa_cons (pe_lst (pa_cons (pe_strN (by decide +kernel)) (pa_cons (pe_strN (by decide +kernel)) pa_nil))) (pa_cons (pe_lst (pa_cons (pe_strN (by decide +kernel)) (pa_cons (pe_strN (by decide +kernel)) pa_nil))) pa_nil))))) (pss_cons (ps_set (i := 4) sc_law.nd rfl (by first | exact Or.inl rfl | exact Or.inr rfl) (pe_op op_addA (pv 4) (pe_lst (pa_cons (pe_lst (pa_cons (pe_strN (by decide +kernel)) (pa_cons (pe_strN (by decide +kernel)) pa_nil))) (pa_cons (pe_lst (pa_cons (pe_strN (by decide +kernel)) (pa_cons (pe_strN (by decide +kernel)) pa_nil))) (pa_cons (pe_lst (pa_cons (pe_strN (by decide +kernel)) (pa_cons (pe_strN (by decide +kernel)) pa_nil))) pa_nil)))))) (pss_cons (ps_set (i := 2) sc_law.nd rfl (by first | exact Or.inl rfl | exact Or.inr rfl) (pe_slice sl_A (pe_op op_addA (pv 2) (pe_c c__law_pick hr (by decide) rfl tk (pa_cons (pv 0) (pa_cons (pv 1) (pa_cons (pv 4) pa_nil))))) (po_some (pe_un un_neg pe_int)) po_none)) (pss_one (ps_set (i := 3) sc_law.nd rfl (by first | exact Or.inl rfl | exact Or.inr rfl) (pe_c c__law_pick hr (by decide) rfl tk (pa_cons (pv 0) (pa_cons (pv 1) (pa_cons (pe_lst (pa_cons pe_int (pa_cons (pv 3) pa_nil))) pa_nil))))))))) pss_nil) (pss_cons (by first | exact (ps_setLc (i := 5) (own := [("_law_row_here", 12)]) (g := (gName 12)) (tt := tYes) (te := (tCallS (sp__law_needed g) (WE W0) (tCons (tVar 2) (tCons (tVar 12) (tCons (tVar 3) tNil))))) rfl sc_law.nd rfl rfl (sw_true rfl rfl rfl (by decide +kernel)) (pi_list (pv 2)) (blkOk_by (own := [("_law_row_here", 12)]) (N := nm_law) (sc := defScope s_law) (by decide +kernel)) (fun _ _ _ _ _ => (pg_name (i := 12) sc_law.nd rfl (by first | exact Or.inl rfl | exact Or.inr rfl))) (fun _ _ _ _ _ => pts_nil) (fun _ _ _ _ _ => (pe_c c__law_needed hr (by decide) rfl takes0 (pa_cons (pv 2) (pa_cons (pv 12) (pa_cons (pv 3) pa_nil)))))) | exact (ps_set (i := 5) sc_law.nd rfl (by first | exact Or.inl rfl | exact Or.inr rfl) (pe_lc (own := [("_law_row_here", 12)]) (g := (gName 12)) (tt := tYes) (te := (tCallS (sp__law_needed g) (WE W0) (tCons (tVar 2) (tCons (tVar 12) (tCons (tVar 3) tNil))))) rfl sc_law.nd (pi_list (pv 2)) (blkOk_by (own := [("_law_row_here", 12)]) (N := nm_law) (sc := defScope s_law) (by decide +kernel)) (fun _ _ _ _ _ => (pg_name (i := 12) sc_law.nd rfl (by first | exact Or.inl rfl | exact Or.inr rfl))) (fun _ _ _ _ _ => pts_nil) (fun _ _ _ _ _ => (pe_c c__law_needed hr (by decide) rfl takes0 (pa_cons (pv 2) (pa_cons (pv 12) (pa_cons (pv 3) pa_nil)))))))) (pss_cons (ps_if (PW.pt (pw_or (pt_cmpR (op_neA hr.units) (pe_lc (own := [("_law_row_here", 12)]) (g := (gName 12)) (tt := tYes) (te := (tCallS (sp_needed g) (WE W0) (tCons (tCB (rListA g.K) (tCons (tVar 2) tNil)) (tCons (tVar 12) (tCons (tVar 3) tNil))))) rfl sc_law.nd (pi_list (pv 2)) (blkOk_by (own := [("_law_row_here", 12)]) (N := nm_law) (sc := defScope s_law) (by decide +kernel)) (fun _ _ _ _ _ => (pg_name (i := 12) sc_law.nd rfl (by first | exact Or.inl rfl | exact Or.inr rfl))) (fun _ _ _ _ _ => pts_nil) (fun _ _ _ _ _ => (pe_c c_needed hr (by decide) rfl takes0 (pa_cons (pe_callTy cr_listA (by rfl) T.b_list (by decide +kernel) (pa_cons (pv 2) pa_nil)) (pa_cons (pv 12) (pa_cons (pv 3) pa_nil)))))) (pv 5) (nomark _)) (pw_or1 (pt_cmpR op_notNo (pe_c c_needed hr (by decide) rfl tk (pa_cons (pe_callTy cr_listA (by rfl) T.b_list (by decide +kernel) (pa_cons (pv 2) pa_nil)) (pa_cons (pe_strN (by decide +kernel)) (pa_cons (pv 3) pa_nil)))) pe_non (nomark _))))) (pss_one (ps_ret pe_bl)) pss_nil) (pss_cons (ps_if (pt_cmpR (op_neA hr.units) (pe_c c_fewest_keys hr (by decide) rfl tk (pa_cons (pe_callTy cr_listA (by rfl) T.b_list (by decide +kernel) (pa_cons (pv 2) pa_nil)) (pa_cons (pv 3) pa_nil))) (pe_lc (own := [("_law_one", 13)]) (g := (gName 13)) (tt := tYes) (te := (tIf (tTest (tOp (rIsNo) (tVar 13) (tC .non))) (tC .non) (tCB (rLenA g.K) (tCons (tVar 13) tNil)))) rfl sc_law.nd (pi_list (pv 5)) (blkOk_by (own := [("_law_one", 13)]) (N := nm_law) (sc := defScope s_law) (by decide +kernel)) (fun _ _ _ _ _ => (pg_name (i := 13) sc_law.nd rfl (by first | exact Or.inl rfl | exact Or.inr rfl))) (fun _ _ _ _ _ => pts_nil) (fun _ _ _ _ _ => (pe_ifExp (pt_cmpR op_isNo (pv 13) pe_non (nomark _)) pe_non (pe_callB cr_lenA (by rfl) T.b_len (by decide +kernel) (pa_cons (pv 13) pa_nil))))) (nomark _)) (pss_one (ps_ret pe_bl)) pss_nil) (pss_cons (ps_for pw_own rfl (pi_range1 rfl T.b_range (pa_cons (pe_callB cr_lenA (by rfl) T.b_len (by decide +kernel) (pa_cons (pv 2) pa_nil)) pa_nil)) (pg_name (i := 6) sc_law.nd rfl (by first | exact Or.inl rfl | exact Or.inr rfl)) (pss_one (ps_if (PW.pt (pw_and (pt_cmpR op_notNo (pe_ix ix_seq (pv 5) (pv 6) (fun _ _ => rfl)) pe_non (nomark _)) (pw_and1 (pt_cmpR op_ninA (pe_ix ix_seq (pv 2) (pv 6) (fun _ _ => rfl)) (pe_c c_best hr (by decide) rfl tk (pa_cons (pv 2) (pa_cons (pe_ix ix_seq (pv 5) (pv 6) (fun _ _ => rfl)) (pa_cons (pv 3) pa_nil)))) (by rfl))))) (pss_one (ps_ret pe_bl)) pss_nil))) (pss_cons (ps_set (i := 7) sc_law.nd rfl (by first | exact Or.inl rfl | exact Or.inr rfl) (pe_c c__law_pick hr (by decide) rfl tk (pa_cons (pv 0) (pa_cons (pv 1) (pa_cons (pe_lst (pa_cons (pe_slice sl_A (pe_c c__law_query hr (by decide) rfl tk (pa_cons (pv 0) (pa_cons (pv 1) pa_nil))) po_none (po_some pe_int)) (pa_cons (pe_slice sl_A (pe_strN (by decide +kernel)) po_none (po_some (pe_op op_addA pe_int (pe_c c__law_draw hr (by decide) rfl tk (pa_cons (pv 0) (pa_cons (pv 1) (pa_cons pe_int pa_nil))))))) pa_nil))) pa_nil))))) (pss_cons (ps_set (i := 4) sc_law.nd rfl (by first | exact Or.inl rfl | exact Or.inr rfl) (pe_op op_addA (pe_bm PySem.F.plainAttrs_str PySem.F.slot_str_join PySem.F.type_str_join mt_joinD (pe_strN (by decide +kernel)) (pa_cons (pe_lc (own := [("_law_row_here", 12)]) (g := (gName 12)) (tt := tYes) (te := (tCallS (sp__law_folded g) (WE W0) (tCons (tVar 12) tNil))) rfl sc_law.nd (pi_list (pv 2)) (blkOk_by (own := [("_law_row_here", 12)]) (N := nm_law) (sc := defScope s_law) (by decide +kernel)) (fun _ _ _ _ _ => (pg_name (i := 12) sc_law.nd rfl (by first | exact Or.inl rfl | exact Or.inr rfl))) (fun _ _ _ _ _ => pts_nil) (fun _ _ _ _ _ => (pe_c c__law_folded hr (by decide) rfl takes0 (pa_cons (pv 12) pa_nil)))) pa_nil)) (pe_strN (by decide +kernel)))) (pss_cons (ps_set (i := 8) sc_law.nd rfl (by first | exact Or.inl rfl | exact Or.inr rfl) (pe_lst pa_nil)) (pss_cons (ps_for pw_own rfl (pi_list (pe_srtSet hr.units rfl (by rfl) T.b_sorted (by decide +kernel) (by rfl) T.b_set (by decide +kernel) (pe_lc (own := [("_law_sign", 9)]) (g := (gName 9)) (tt := (tTest (tOp (rNeA g.K) (tVar 9) (tC (.str (S [32])))))) (te := (tVar 9)) rfl sc_law.nd (pi_str (pv 4)) (blkOk_by (own := [("_law_sign", 9)]) (N := nm_law) (sc := defScope s_law) (by decide +kernel)) (fun _ _ _ _ _ => (pg_name (i := 9) sc_law.nd rfl (by first | exact Or.inl rfl | exact Or.inr rfl))) (fun _ _ _ _ _ => (pts_one (pt_cmpR (op_neA hr.units) (pv 9) (pe_strN (by decide +kernel)) (nomark _)))) (fun _ _ _ _ _ => (pv 9))))) (pg_name (i := 9) sc_law.nd rfl (by first | exact Or.inl rfl | exact Or.inr rfl)) (pss_cons (ps_set (i := 10) sc_law.nd rfl (by first | exact Or.inl rfl | exact Or.inr rfl) (pe_callB cr_lenA (by rfl) T.b_len (by decide +kernel) (pa_cons (pe_lc (own := [("_law_row_here", 12)]) (g := (gName 12)) (tt := (tTest (tOp (rNotNo) (tCallS (sp__law_rank g) (WE W0) (tCons (tVar 12) (tCons (tOp (rAddA g.K) (tVar 7) (tVar 9)) tNil))) (tC .non)))) (te := (tVar 12)) rfl sc_law.nd (pi_list (pv 2)) (blkOk_by (own := [("_law_row_here", 12)]) (N := nm_law) (sc := defScope s_law) (by decide +kernel)) (fun _ _ _ _ _ => (pg_name (i := 12) sc_law.nd rfl (by first | exact Or.inl rfl | exact Or.inr rfl))) (fun _ _ _ _ _ => (pts_one (pt_cmpR op_notNo (pe_c c__law_rank hr (by decide) rfl takes0 (pa_cons (pv 12) (pa_cons (pe_op op_addA (pv 7) (pv 9)) pa_nil))) pe_non (nomark _)))) (fun _ _ _ _ _ => (pv 12))) pa_nil))) (pss_one (ps_set (i := 8) sc_law.nd rfl (by first | exact Or.inl rfl | exact Or.inr rfl) (pe_op op_addA (pv 8) (pe_op op_mulA (pe_lst (pa_cons (pe_tup (pa_cons (pv 9) (pa_cons (pv 10) pa_nil))) pa_nil)) (pe_callTy cr_intA (by rfl) T.b_int (by decide +kernel) (pa_cons (pe_cmpR op_gt (pv 10) pe_int (nomark _)) pa_nil)))))))) (pss_cons (ps_if (pt_cmpR (op_neA hr.units) (pe_c c_nexts hr (by decide) rfl tk (pa_cons (pe_callTy cr_listA (by rfl) T.b_list (by decide +kernel) (pa_cons (pv 2) pa_nil)) (pa_cons (pv 7) pa_nil))) (pv 8) (nomark _)) (pss_one (ps_ret pe_bl)) pss_nil) (pss_cons (ps_if (pt_cmpR (op_neA hr.units) (pe_c c_alike hr (by decide) rfl tk (pa_cons (pe_callTy cr_listA (by rfl) T.b_list (by decide +kernel) (pa_cons (pv 2) pa_nil)) pa_nil)) (pe_c c__law_groups hr (by decide) rfl tk (pa_cons (pv 2) pa_nil)) (nomark _)) (pss_one (ps_ret pe_bl)) pss_nil) (pss_cons (ps_set (i := 7) sc_law.nd rfl (by first | exact Or.inl rfl | exact Or.inr rfl) (pe_c c__law_pick hr (by decide) rfl tk (pa_cons (pv 0) (pa_cons (pv 1) (pa_cons (pe_lst (pa_cons (pe_c c__law_query hr (by decide) rfl tk (pa_cons (pv 0) (pa_cons (pv 1) pa_nil))) (pa_cons (pe_slice sl_A (pe_strN (by decide +kernel)) po_none (po_some (pe_op op_addA pe_int (pe_c c__law_draw hr (by decide) rfl tk (pa_cons (pv 0) (pa_cons (pv 1) (pa_cons pe_int pa_nil))))))) pa_nil))) pa_nil))))) (pss_cons (by first | exact (ps_setLc (i := 11) (own := [("_law_row_here", 12)]) (g := (gName 12)) (tt := tYes) (te := (tCallS (sp__law_rank g) (WE W0) (tCons (tVar 12) (tCons (tVar 7) tNil)))) rfl sc_law.nd rfl rfl (sw_true rfl rfl rfl (by decide +kernel)) (pi_list (pv 2)) (blkOk_by (own := [("_law_row_here", 12)]) (N := nm_law) (sc := defScope s_law) (by decide +kernel)) (fun _ _ _ _ _ => (pg_name (i := 12) sc_law.nd rfl (by first | exact Or.inl rfl | exact Or.inr rfl))) (fun _ _ _ _ _ => pts_nil) (fun _ _ _ _ _ => (pe_c c__law_rank hr (by decide) rfl takes0 (pa_cons (pv 12) (pa_cons (pv 7) pa_nil))))) | exact (ps_set (i := 11) sc_law.nd rfl (by first | exact Or.inl rfl | exact Or.inr rfl) (pe_lc (own := [("_law_row_here", 12)]) (g := (gName 12)) (tt := tYes) (te := (tCallS (sp__law_rank g) (WE W0) (tCons (tVar 12) (tCons (tVar 7) tNil)))) rfl sc_law.nd (pi_list (pv 2)) (blkOk_by (own := [("_law_row_here", 12)]) (N := nm_law) (sc := defScope s_law) (by decide +kernel)) (fun _ _ _ _ _ => (pg_name (i := 12) sc_law.nd rfl (by first | exact Or.inl rfl | exact Or.inr rfl))) (fun _ _ _ _ _ => pts_nil) (fun _ _ _ _ _ => (pe_c c__law_rank hr (by decide) rfl takes0 (pa_cons (pv 12) (pa_cons (pv 7) pa_nil))))))) (pss_one (ps_ret (pe_cmpR (op_eqA hr.units) (pe_c c_by_rank hr (by decide) rfl tk (pa_cons (pe_callTy cr_listA (by rfl) T.b_list (by decide +kernel) (pa_cons (pv 2) pa_nil)) (pa_cons (pv 7) pa_nil))) (pe_callTy cr_tupA (by rfl) T.b_tuple (by decide +kernel) (pa_cons (pe_lc (own := [("_law_k", 6)]) (g := (gName 6)) (tt := tYes) (te := (tBM g.K "list" (rCntF g.K) (tVar 11) (tCons (tVar 6) tNil))) rfl sc_law.nd (pi_range1 rfl T.b_range (pa_cons pe_int pa_nil)) (blkOk_by (own := [("_law_k", 6)]) (N := nm_law) (sc := defScope s_law) (by decide +kernel)) (fun _ _ _ _ _ => (pg_name (i := 6) sc_law.nd rfl (by first | exact Or.inl rfl | exact Or.inr rfl))) (fun _ _ _ _ _ => pts_nil) (fun _ _ _ _ _ => (pe_bm PySem.F.plainAttrs_list PySem.F.slot_list_count PySem.F.type_list_count mt_cntF (pv 11) (pa_cons (pv 6) pa_nil)))) pa_nil)) (nomark _))))))))))))))))))))
theorem all_mk {P : Program} {w : World} {K : PySem.W.Frag} {h : Heap} {mg : Str → Option Value} {fa cT cN : Addr} (X : K.In h) (G0 : h.Ns mainGlobals mg) (hfa : mg "law" = some (.ref fa))
    {t_MOST_ROW : Tok}
    {t_MOST_TYPED : Tok}
    {t_MOST_ANSWER : Tok}
    {t_SIGNS : Tok}
    {t_RANKS : Tok}
    {f__law_cell : Addr} {od__law_cell an__law_cell : Option Addr} {sl__law_cell : Array (Option Value)} {oc__law_cell kV__law_cell dc__law_cell pm__law_cell cd__law_cell ct__law_cell : Value}
    {f__law_mix : Addr} {od__law_mix an__law_mix : Option Addr} {sl__law_mix : Array (Option Value)} {oc__law_mix kV__law_mix dc__law_mix pm__law_mix cd__law_mix ct__law_mix : Value}
    {f__law_draw : Addr} {od__law_draw an__law_draw : Option Addr} {sl__law_draw : Array (Option Value)} {oc__law_draw kV__law_draw dc__law_draw pm__law_draw cd__law_draw ct__law_draw : Value}
    {f__law_pick : Addr} {od__law_pick an__law_pick : Option Addr} {sl__law_pick : Array (Option Value)} {oc__law_pick kV__law_pick dc__law_pick pm__law_pick cd__law_pick ct__law_pick : Value}
    {f__law_row : Addr} {od__law_row an__law_row : Option Addr} {sl__law_row : Array (Option Value)} {oc__law_row kV__law_row dc__law_row pm__law_row cd__law_row ct__law_row : Value}
    {f__law_rows : Addr} {od__law_rows an__law_rows : Option Addr} {sl__law_rows : Array (Option Value)} {oc__law_rows kV__law_rows dc__law_rows pm__law_rows cd__law_rows ct__law_rows : Value}
    {f__law_folded : Addr} {od__law_folded an__law_folded : Option Addr} {sl__law_folded : Array (Option Value)} {oc__law_folded kV__law_folded dc__law_folded pm__law_folded cd__law_folded ct__law_folded : Value}
    {f__law_rank : Addr} {od__law_rank an__law_rank : Option Addr} {sl__law_rank : Array (Option Value)} {oc__law_rank kV__law_rank dc__law_rank pm__law_rank cd__law_rank ct__law_rank : Value}
    {f__law_best : Addr} {od__law_best an__law_best : Option Addr} {sl__law_best : Array (Option Value)} {oc__law_best kV__law_best dc__law_best pm__law_best cd__law_best ct__law_best : Value}
    {f__law_needed : Addr} {od__law_needed an__law_needed : Option Addr} {sl__law_needed : Array (Option Value)} {oc__law_needed kV__law_needed dc__law_needed pm__law_needed cd__law_needed ct__law_needed : Value}
    {f_look_many : Addr} {od_look_many an_look_many : Option Addr} {sl_look_many : Array (Option Value)} {oc_look_many kV_look_many dc_look_many pm_look_many cd_look_many ct_look_many : Value}
    {f_look_text : Addr} {od_look_text an_look_text : Option Addr} {sl_look_text : Array (Option Value)} {oc_look_text kV_look_text dc_look_text pm_look_text cd_look_text ct_look_text : Value}
    {f_look_rows : Addr} {od_look_rows an_look_rows : Option Addr} {sl_look_rows : Array (Option Value)} {oc_look_rows kV_look_rows dc_look_rows pm_look_rows cd_look_rows ct_look_rows : Value}
    {f_folded : Addr} {od_folded an_folded : Option Addr} {sl_folded : Array (Option Value)} {oc_folded kV_folded dc_folded pm_folded cd_folded ct_folded : Value}
    {f_rank : Addr} {od_rank an_rank : Option Addr} {sl_rank : Array (Option Value)} {oc_rank kV_rank dc_rank pm_rank cd_rank ct_rank : Value}
    {f_best : Addr} {od_best an_best : Option Addr} {sl_best : Array (Option Value)} {oc_best kV_best dc_best pm_best cd_best ct_best : Value}
    {f_needed : Addr} {od_needed an_needed : Option Addr} {sl_needed : Array (Option Value)} {oc_needed kV_needed dc_needed pm_needed cd_needed ct_needed : Value}
    {f_fewest_keys : Addr} {od_fewest_keys an_fewest_keys : Option Addr} {sl_fewest_keys : Array (Option Value)} {oc_fewest_keys kV_fewest_keys dc_fewest_keys pm_fewest_keys cd_fewest_keys ct_fewest_keys : Value}
    {f__law_query : Addr} {od__law_query an__law_query : Option Addr} {sl__law_query : Array (Option Value)} {oc__law_query kV__law_query dc__law_query pm__law_query cd__law_query ct__law_query : Value}
    {f_nexts : Addr} {od_nexts an_nexts : Option Addr} {sl_nexts : Array (Option Value)} {oc_nexts kV_nexts dc_nexts pm_nexts cd_nexts ct_nexts : Value}
    {f_alike : Addr} {od_alike an_alike : Option Addr} {sl_alike : Array (Option Value)} {oc_alike kV_alike dc_alike pm_alike cd_alike ct_alike : Value}
    {f__law_groups : Addr} {od__law_groups an__law_groups : Option Addr} {sl__law_groups : Array (Option Value)} {oc__law_groups kV__law_groups dc__law_groups pm__law_groups cd__law_groups ct__law_groups : Value}
    {f_by_rank : Addr} {od_by_rank an_by_rank : Option Addr} {sl_by_rank : Array (Option Value)} {oc_by_rank kV_by_rank dc_by_rank pm_by_rank cd_by_rank ct_by_rank : Value}
    {f_law : Addr} {od_law an_law : Option Addr} {sl_law : Array (Option Value)} {oc_law kV_law dc_law pm_law cd_law ct_law : Value}
    (a_BadText : PySem.W.nsIn K mainGlobals "BadText" = some (some (.ref cT)))
    (ex_BadText : PySem.W.excIn K cT [.type "ValueError", .type "Exception", .type "BaseException", .type "object"] "ValueError.__new__" = true)
    (kp_BadText : PySem.W.keepIn K (.ref cT) = true)
    (sb_BadText : PySem.W.subIn K (.ref cT) (.type "BaseException") = some true)
    (ty_BadText : PySem.W.typeIn K (.ref cT) = some (.type "type"))
    (hg_BadText : PySem.W.findIn K (.ref cT) "__getattribute__" = some (some (.builtin "BaseException.__getattribute__")))
    (hk_BadText : PySem.W.findIn K (.ref cT) "__getattr__" = some none)
    (hd_BadText : PySem.W.hasDictIn K cT = true)
    (ha_BadText : PySem.W.findIn K (.ref cT) "__class__" = some (some (.builtin "object.__class__")))
    (hm_BadText : PySem.W.mroIn K cT (.type "object") = some true)
    (a_BadNumber : PySem.W.nsIn K mainGlobals "BadNumber" = some (some (.ref cN)))
    (ex_BadNumber : PySem.W.excIn K cN [.type "ValueError", .type "Exception", .type "BaseException", .type "object"] "ValueError.__new__" = true)
    (kp_BadNumber : PySem.W.keepIn K (.ref cN) = true)
    (sb_BadNumber : PySem.W.subIn K (.ref cN) (.type "BaseException") = some true)
    (ty_BadNumber : PySem.W.typeIn K (.ref cN) = some (.type "type"))
    (hg_BadNumber : PySem.W.findIn K (.ref cN) "__getattribute__" = some (some (.builtin "BaseException.__getattribute__")))
    (hk_BadNumber : PySem.W.findIn K (.ref cN) "__getattr__" = some none)
    (hd_BadNumber : PySem.W.hasDictIn K cN = true)
    (ha_BadNumber : PySem.W.findIn K (.ref cN) "__class__" = some (some (.builtin "object.__class__")))
    (hm_BadNumber : PySem.W.mroIn K cN (.type "object") = some true)
    (hn : PySem.W.specialIn K (.builtin "object.__class__") "__get__" = some (some (.builtin "getset_descriptor.__get__")))
    (ht : PySem.W.takesIn K (.builtin "object.__class__") = some true)
    (z_len : PySem.W.nsIn K mainGlobals "len" = some none)
    (z_ord : PySem.W.nsIn K mainGlobals "ord" = some none)
    (z_all : PySem.W.nsIn K mainGlobals "all" = some none)
    (z_sorted : PySem.W.nsIn K mainGlobals "sorted" = some none)
    (z_range : PySem.W.nsIn K mainGlobals "range" = some none)
    (z_min : PySem.W.nsIn K mainGlobals "min" = some none)
    (z_tuple : PySem.W.nsIn K mainGlobals "tuple" = some none)
    (z_list : PySem.W.nsIn K mainGlobals "list" = some none)
    (z_set : PySem.W.nsIn K mainGlobals "set" = some none)
    (z_int : PySem.W.nsIn K mainGlobals "int" = some none)
    (n_MOST_ROW : PySem.W.nsIn K mainGlobals "MOST_ROW" = some (some (.int 20 t_MOST_ROW)))
    (n_MOST_TYPED : PySem.W.nsIn K mainGlobals "MOST_TYPED" = some (some (.int 12 t_MOST_TYPED)))
    (n_MOST_ANSWER : PySem.W.nsIn K mainGlobals "MOST_ANSWER" = some (some (.int 6 t_MOST_ANSWER)))
    (n_SIGNS : PySem.W.nsIn K mainGlobals "SIGNS" = some (some (.str "!\"#$&'()*+,-./0123456789:;<=>?\x40[\\]^_`abcdefghijklmnopqrstuvwxyz{|}~" t_SIGNS)))
    (n_RANKS : PySem.W.nsIn K mainGlobals "RANKS" = some (some (.int 4 t_RANKS)))
    (a__law_cell : PySem.W.nsIn K mainGlobals "_law_cell" = some (some (.ref f__law_cell)))
    (l__law_cell : K.lookup f__law_cell = some ⟨oc__law_cell, od__law_cell, .func (PySem.W.fnOf "_law_cell" "_law_cell" (defArgs s__law_cell) (defBody s__law_cell) (defScope s__law_cell) .none kV__law_cell dc__law_cell pm__law_cell an__law_cell cd__law_cell ct__law_cell), sl__law_cell⟩)
    (c__law_cell : PySem.W.codeIn K cd__law_cell "_law_cell" = true)
    (k__law_cell : PySem.W.keepIn K (.ref f__law_cell) = true)
    (a__law_mix : PySem.W.nsIn K mainGlobals "_law_mix" = some (some (.ref f__law_mix)))
    (l__law_mix : K.lookup f__law_mix = some ⟨oc__law_mix, od__law_mix, .func (PySem.W.fnOf "_law_mix" "_law_mix" (defArgs s__law_mix) (defBody s__law_mix) (defScope s__law_mix) .none kV__law_mix dc__law_mix pm__law_mix an__law_mix cd__law_mix ct__law_mix), sl__law_mix⟩)
    (c__law_mix : PySem.W.codeIn K cd__law_mix "_law_mix" = true)
    (k__law_mix : PySem.W.keepIn K (.ref f__law_mix) = true)
    (a__law_draw : PySem.W.nsIn K mainGlobals "_law_draw" = some (some (.ref f__law_draw)))
    (l__law_draw : K.lookup f__law_draw = some ⟨oc__law_draw, od__law_draw, .func (PySem.W.fnOf "_law_draw" "_law_draw" (defArgs s__law_draw) (defBody s__law_draw) (defScope s__law_draw) .none kV__law_draw dc__law_draw pm__law_draw an__law_draw cd__law_draw ct__law_draw), sl__law_draw⟩)
    (c__law_draw : PySem.W.codeIn K cd__law_draw "_law_draw" = true)
    (k__law_draw : PySem.W.keepIn K (.ref f__law_draw) = true)
    (a__law_pick : PySem.W.nsIn K mainGlobals "_law_pick" = some (some (.ref f__law_pick)))
    (l__law_pick : K.lookup f__law_pick = some ⟨oc__law_pick, od__law_pick, .func (PySem.W.fnOf "_law_pick" "_law_pick" (defArgs s__law_pick) (defBody s__law_pick) (defScope s__law_pick) .none kV__law_pick dc__law_pick pm__law_pick an__law_pick cd__law_pick ct__law_pick), sl__law_pick⟩)
    (c__law_pick : PySem.W.codeIn K cd__law_pick "_law_pick" = true)
    (k__law_pick : PySem.W.keepIn K (.ref f__law_pick) = true)
    (a__law_row : PySem.W.nsIn K mainGlobals "_law_row" = some (some (.ref f__law_row)))
    (l__law_row : K.lookup f__law_row = some ⟨oc__law_row, od__law_row, .func (PySem.W.fnOf "_law_row" "_law_row" (defArgs s__law_row) (defBody s__law_row) (defScope s__law_row) .none kV__law_row dc__law_row pm__law_row an__law_row cd__law_row ct__law_row), sl__law_row⟩)
    (c__law_row : PySem.W.codeIn K cd__law_row "_law_row" = true)
    (k__law_row : PySem.W.keepIn K (.ref f__law_row) = true)
    (a__law_rows : PySem.W.nsIn K mainGlobals "_law_rows" = some (some (.ref f__law_rows)))
    (l__law_rows : K.lookup f__law_rows = some ⟨oc__law_rows, od__law_rows, .func (PySem.W.fnOf "_law_rows" "_law_rows" (defArgs s__law_rows) (defBody s__law_rows) (defScope s__law_rows) .none kV__law_rows dc__law_rows pm__law_rows an__law_rows cd__law_rows ct__law_rows), sl__law_rows⟩)
    (c__law_rows : PySem.W.codeIn K cd__law_rows "_law_rows" = true)
    (k__law_rows : PySem.W.keepIn K (.ref f__law_rows) = true)
    (a__law_folded : PySem.W.nsIn K mainGlobals "_law_folded" = some (some (.ref f__law_folded)))
    (l__law_folded : K.lookup f__law_folded = some ⟨oc__law_folded, od__law_folded, .func (PySem.W.fnOf "_law_folded" "_law_folded" (defArgs s__law_folded) (defBody s__law_folded) (defScope s__law_folded) .none kV__law_folded dc__law_folded pm__law_folded an__law_folded cd__law_folded ct__law_folded), sl__law_folded⟩)
    (c__law_folded : PySem.W.codeIn K cd__law_folded "_law_folded" = true)
    (k__law_folded : PySem.W.keepIn K (.ref f__law_folded) = true)
    (a__law_rank : PySem.W.nsIn K mainGlobals "_law_rank" = some (some (.ref f__law_rank)))
    (l__law_rank : K.lookup f__law_rank = some ⟨oc__law_rank, od__law_rank, .func (PySem.W.fnOf "_law_rank" "_law_rank" (defArgs s__law_rank) (defBody s__law_rank) (defScope s__law_rank) .none kV__law_rank dc__law_rank pm__law_rank an__law_rank cd__law_rank ct__law_rank), sl__law_rank⟩)
    (c__law_rank : PySem.W.codeIn K cd__law_rank "_law_rank" = true)
    (k__law_rank : PySem.W.keepIn K (.ref f__law_rank) = true)
    (a__law_best : PySem.W.nsIn K mainGlobals "_law_best" = some (some (.ref f__law_best)))
    (l__law_best : K.lookup f__law_best = some ⟨oc__law_best, od__law_best, .func (PySem.W.fnOf "_law_best" "_law_best" (defArgs s__law_best) (defBody s__law_best) (defScope s__law_best) .none kV__law_best dc__law_best pm__law_best an__law_best cd__law_best ct__law_best), sl__law_best⟩)
    (c__law_best : PySem.W.codeIn K cd__law_best "_law_best" = true)
    (k__law_best : PySem.W.keepIn K (.ref f__law_best) = true)
    (a__law_needed : PySem.W.nsIn K mainGlobals "_law_needed" = some (some (.ref f__law_needed)))
    (l__law_needed : K.lookup f__law_needed = some ⟨oc__law_needed, od__law_needed, .func (PySem.W.fnOf "_law_needed" "_law_needed" (defArgs s__law_needed) (defBody s__law_needed) (defScope s__law_needed) .none kV__law_needed dc__law_needed pm__law_needed an__law_needed cd__law_needed ct__law_needed), sl__law_needed⟩)
    (c__law_needed : PySem.W.codeIn K cd__law_needed "_law_needed" = true)
    (k__law_needed : PySem.W.keepIn K (.ref f__law_needed) = true)
    (a_look_many : PySem.W.nsIn K mainGlobals "look_many" = some (some (.ref f_look_many)))
    (l_look_many : K.lookup f_look_many = some ⟨oc_look_many, od_look_many, .func (PySem.W.fnOf "look_many" "look_many" (defArgs s_look_many) (defBody s_look_many) (defScope s_look_many) .none kV_look_many dc_look_many pm_look_many an_look_many cd_look_many ct_look_many), sl_look_many⟩)
    (c_look_many : PySem.W.codeIn K cd_look_many "look_many" = true)
    (k_look_many : PySem.W.keepIn K (.ref f_look_many) = true)
    (a_look_text : PySem.W.nsIn K mainGlobals "look_text" = some (some (.ref f_look_text)))
    (l_look_text : K.lookup f_look_text = some ⟨oc_look_text, od_look_text, .func (PySem.W.fnOf "look_text" "look_text" (defArgs s_look_text) (defBody s_look_text) (defScope s_look_text) .none kV_look_text dc_look_text pm_look_text an_look_text cd_look_text ct_look_text), sl_look_text⟩)
    (c_look_text : PySem.W.codeIn K cd_look_text "look_text" = true)
    (k_look_text : PySem.W.keepIn K (.ref f_look_text) = true)
    (a_look_rows : PySem.W.nsIn K mainGlobals "look_rows" = some (some (.ref f_look_rows)))
    (l_look_rows : K.lookup f_look_rows = some ⟨oc_look_rows, od_look_rows, .func (PySem.W.fnOf "look_rows" "look_rows" (defArgs s_look_rows) (defBody s_look_rows) (defScope s_look_rows) .none kV_look_rows dc_look_rows pm_look_rows an_look_rows cd_look_rows ct_look_rows), sl_look_rows⟩)
    (c_look_rows : PySem.W.codeIn K cd_look_rows "look_rows" = true)
    (k_look_rows : PySem.W.keepIn K (.ref f_look_rows) = true)
    (a_folded : PySem.W.nsIn K mainGlobals "folded" = some (some (.ref f_folded)))
    (l_folded : K.lookup f_folded = some ⟨oc_folded, od_folded, .func (PySem.W.fnOf "folded" "folded" (defArgs s_folded) (defBody s_folded) (defScope s_folded) .none kV_folded dc_folded pm_folded an_folded cd_folded ct_folded), sl_folded⟩)
    (c_folded : PySem.W.codeIn K cd_folded "folded" = true)
    (k_folded : PySem.W.keepIn K (.ref f_folded) = true)
    (a_rank : PySem.W.nsIn K mainGlobals "rank" = some (some (.ref f_rank)))
    (l_rank : K.lookup f_rank = some ⟨oc_rank, od_rank, .func (PySem.W.fnOf "rank" "rank" (defArgs s_rank) (defBody s_rank) (defScope s_rank) .none kV_rank dc_rank pm_rank an_rank cd_rank ct_rank), sl_rank⟩)
    (c_rank : PySem.W.codeIn K cd_rank "rank" = true)
    (k_rank : PySem.W.keepIn K (.ref f_rank) = true)
    (a_best : PySem.W.nsIn K mainGlobals "best" = some (some (.ref f_best)))
    (l_best : K.lookup f_best = some ⟨oc_best, od_best, .func (PySem.W.fnOf "best" "best" (defArgs s_best) (defBody s_best) (defScope s_best) .none kV_best dc_best pm_best an_best cd_best ct_best), sl_best⟩)
    (c_best : PySem.W.codeIn K cd_best "best" = true)
    (k_best : PySem.W.keepIn K (.ref f_best) = true)
    (a_needed : PySem.W.nsIn K mainGlobals "needed" = some (some (.ref f_needed)))
    (l_needed : K.lookup f_needed = some ⟨oc_needed, od_needed, .func (PySem.W.fnOf "needed" "needed" (defArgs s_needed) (defBody s_needed) (defScope s_needed) .none kV_needed dc_needed pm_needed an_needed cd_needed ct_needed), sl_needed⟩)
    (c_needed : PySem.W.codeIn K cd_needed "needed" = true)
    (k_needed : PySem.W.keepIn K (.ref f_needed) = true)
    (a_fewest_keys : PySem.W.nsIn K mainGlobals "fewest_keys" = some (some (.ref f_fewest_keys)))
    (l_fewest_keys : K.lookup f_fewest_keys = some ⟨oc_fewest_keys, od_fewest_keys, .func (PySem.W.fnOf "fewest_keys" "fewest_keys" (defArgs s_fewest_keys) (defBody s_fewest_keys) (defScope s_fewest_keys) .none kV_fewest_keys dc_fewest_keys pm_fewest_keys an_fewest_keys cd_fewest_keys ct_fewest_keys), sl_fewest_keys⟩)
    (c_fewest_keys : PySem.W.codeIn K cd_fewest_keys "fewest_keys" = true)
    (k_fewest_keys : PySem.W.keepIn K (.ref f_fewest_keys) = true)
    (a__law_query : PySem.W.nsIn K mainGlobals "_law_query" = some (some (.ref f__law_query)))
    (l__law_query : K.lookup f__law_query = some ⟨oc__law_query, od__law_query, .func (PySem.W.fnOf "_law_query" "_law_query" (defArgs s__law_query) (defBody s__law_query) (defScope s__law_query) .none kV__law_query dc__law_query pm__law_query an__law_query cd__law_query ct__law_query), sl__law_query⟩)
    (c__law_query : PySem.W.codeIn K cd__law_query "_law_query" = true)
    (k__law_query : PySem.W.keepIn K (.ref f__law_query) = true)
    (a_nexts : PySem.W.nsIn K mainGlobals "nexts" = some (some (.ref f_nexts)))
    (l_nexts : K.lookup f_nexts = some ⟨oc_nexts, od_nexts, .func (PySem.W.fnOf "nexts" "nexts" (defArgs s_nexts) (defBody s_nexts) (defScope s_nexts) .none kV_nexts dc_nexts pm_nexts an_nexts cd_nexts ct_nexts), sl_nexts⟩)
    (c_nexts : PySem.W.codeIn K cd_nexts "nexts" = true)
    (k_nexts : PySem.W.keepIn K (.ref f_nexts) = true)
    (a_alike : PySem.W.nsIn K mainGlobals "alike" = some (some (.ref f_alike)))
    (l_alike : K.lookup f_alike = some ⟨oc_alike, od_alike, .func (PySem.W.fnOf "alike" "alike" (defArgs s_alike) (defBody s_alike) (defScope s_alike) .none kV_alike dc_alike pm_alike an_alike cd_alike ct_alike), sl_alike⟩)
    (c_alike : PySem.W.codeIn K cd_alike "alike" = true)
    (k_alike : PySem.W.keepIn K (.ref f_alike) = true)
    (a__law_groups : PySem.W.nsIn K mainGlobals "_law_groups" = some (some (.ref f__law_groups)))
    (l__law_groups : K.lookup f__law_groups = some ⟨oc__law_groups, od__law_groups, .func (PySem.W.fnOf "_law_groups" "_law_groups" (defArgs s__law_groups) (defBody s__law_groups) (defScope s__law_groups) .none kV__law_groups dc__law_groups pm__law_groups an__law_groups cd__law_groups ct__law_groups), sl__law_groups⟩)
    (c__law_groups : PySem.W.codeIn K cd__law_groups "_law_groups" = true)
    (k__law_groups : PySem.W.keepIn K (.ref f__law_groups) = true)
    (a_by_rank : PySem.W.nsIn K mainGlobals "by_rank" = some (some (.ref f_by_rank)))
    (l_by_rank : K.lookup f_by_rank = some ⟨oc_by_rank, od_by_rank, .func (PySem.W.fnOf "by_rank" "by_rank" (defArgs s_by_rank) (defBody s_by_rank) (defScope s_by_rank) .none kV_by_rank dc_by_rank pm_by_rank an_by_rank cd_by_rank ct_by_rank), sl_by_rank⟩)
    (c_by_rank : PySem.W.codeIn K cd_by_rank "by_rank" = true)
    (k_by_rank : PySem.W.keepIn K (.ref f_by_rank) = true)
    (a_law : PySem.W.nsIn K mainGlobals "law" = some (some (.ref f_law)))
    (l_law : K.lookup f_law = some ⟨oc_law, od_law, .func (PySem.W.fnOf "law" "law" (defArgs s_law) (defBody s_law) (defScope s_law) .none kV_law dc_law pm_law an_law cd_law ct_law), sl_law⟩)
    (c_law : PySem.W.codeIn K cd_law "law" = true)
    (k_law : PySem.W.keepIn K (.ref f_law) = true) :
    ∃ fd : FuncData, (∀ (s : Shared) (v : Value), BindsTo s fd ⟨[v], []⟩ [("_law_script", v)]) ∧ ∀ base : Heap, K.In base → base.Ns mainGlobals mg → FnOk P w K mg base (L2.CX P w) 7 fa fd ["_law_script"] (sp_law (⟨K, 0, cT, cN, 0, 0, 0, 0, 0, 0⟩ : G)) := by
  have e := hfa.symm.trans (PySem.W.mg_of X G0 a_law)
  cases e
  have e_BadText : ExcC K cT := ⟨hg_BadText, hk_BadText, sb_BadText, hd_BadText, ha_BadText, hn, ht, hm_BadText⟩
  have e_BadNumber : ExcC K cN := ⟨hg_BadNumber, hk_BadNumber, sb_BadNumber, hd_BadNumber, ha_BadNumber, hn, ht, hm_BadNumber⟩
  have T : Txt mg (⟨K, 0, cT, cN, 0, 0, 0, 0, 0, 0⟩ : G) := {
      b_len := PySem.W.mg_none_of X G0 z_len,
      b_ord := PySem.W.mg_none_of X G0 z_ord,
      b_all := PySem.W.mg_none_of X G0 z_all,
      b_sorted := PySem.W.mg_none_of X G0 z_sorted,
      b_range := PySem.W.mg_none_of X G0 z_range,
      b_min := PySem.W.mg_none_of X G0 z_min,
      b_tuple := PySem.W.mg_none_of X G0 z_tuple,
      b_list := PySem.W.mg_none_of X G0 z_list,
      b_set := PySem.W.mg_none_of X G0 z_set,
      b_int := PySem.W.mg_none_of X G0 z_int,
      c_MOST_ROW := ⟨_, PySem.W.mg_of X G0 n_MOST_ROW⟩,
      c_MOST_TYPED := ⟨_, PySem.W.mg_of X G0 n_MOST_TYPED⟩,
      c_MOST_ANSWER := ⟨_, PySem.W.mg_of X G0 n_MOST_ANSWER⟩,
      c_SIGNS := ⟨_, PySem.W.mg_of X G0 n_SIGNS⟩,
      c_RANKS := ⟨_, PySem.W.mg_of X G0 n_RANKS⟩,
      x_BadText := ⟨PySem.W.mg_of X G0 a_BadText, ex_BadText, kp_BadText, sb_BadText, ty_BadText, e_BadText⟩,
      x_BadNumber := ⟨PySem.W.mg_of X G0 a_BadNumber, ex_BadNumber, kp_BadNumber, sb_BadNumber, ty_BadNumber, e_BadNumber⟩ }
  have F__law_cell := fun_mk (st := s__law_cell) l__law_cell c__law_cell k__law_cell
  have B__law_cell := F__law_cell.binds (ps := ["_law_script", "_law_k"]) fun _ _ _ _ _ _ us hl => match us, hl with | [_, _], _ => rfl
  have F__law_mix := fun_mk (st := s__law_mix) l__law_mix c__law_mix k__law_mix
  have B__law_mix := F__law_mix.binds (ps := ["_law_script", "_law_k"]) fun _ _ _ _ _ _ us hl => match us, hl with | [_, _], _ => rfl
  have F__law_draw := fun_mk (st := s__law_draw) l__law_draw c__law_draw k__law_draw
  have B__law_draw := F__law_draw.binds (ps := ["_law_script", "_law_town", "_law_many"]) fun _ _ _ _ _ _ us hl => match us, hl with | [_, _, _], _ => rfl
  have F__law_pick := fun_mk (st := s__law_pick) l__law_pick c__law_pick k__law_pick
  have B__law_pick := F__law_pick.binds (ps := ["_law_script", "_law_town", "_law_some"]) fun _ _ _ _ _ _ us hl => match us, hl with | [_, _, _], _ => rfl
  have F__law_row := fun_mk (st := s__law_row) l__law_row c__law_row k__law_row
  have B__law_row := F__law_row.binds (ps := ["_law_script", "_law_town"]) fun _ _ _ _ _ _ us hl => match us, hl with | [_, _], _ => rfl
  have F__law_rows := fun_mk (st := s__law_rows) l__law_rows c__law_rows k__law_rows
  have B__law_rows := F__law_rows.binds (ps := ["_law_script", "_law_town"]) fun _ _ _ _ _ _ us hl => match us, hl with | [_, _], _ => rfl
  have F__law_folded := fun_mk (st := s__law_folded) l__law_folded c__law_folded k__law_folded
  have B__law_folded := F__law_folded.binds (ps := ["_law_text"]) fun _ _ _ _ _ _ us hl => match us, hl with | [_], _ => rfl
  have F__law_rank := fun_mk (st := s__law_rank) l__law_rank c__law_rank k__law_rank
  have B__law_rank := F__law_rank.binds (ps := ["_law_row_here", "_law_query_here"]) fun _ _ _ _ _ _ us hl => match us, hl with | [_, _], _ => rfl
  have F__law_best := fun_mk (st := s__law_best) l__law_best c__law_best k__law_best
  have B__law_best := F__law_best.binds (ps := ["_law_rows_here", "_law_query_here", "_law_many"]) fun _ _ _ _ _ _ us hl => match us, hl with | [_, _, _], _ => rfl
  have F__law_needed := fun_mk (st := s__law_needed) l__law_needed c__law_needed k__law_needed
  have B__law_needed := F__law_needed.binds (ps := ["_law_rows_here", "_law_row_here", "_law_many"]) fun _ _ _ _ _ _ us hl => match us, hl with | [_, _, _], _ => rfl
  have F_look_many := fun_mk (st := s_look_many) l_look_many c_look_many k_look_many
  have B_look_many := F_look_many.binds (ps := ["many"]) fun _ _ _ _ _ _ us hl => match us, hl with | [_], _ => rfl
  have F_look_text := fun_mk (st := s_look_text) l_look_text c_look_text k_look_text
  have B_look_text := F_look_text.binds (ps := ["text", "most"]) fun _ _ _ _ _ _ us hl => match us, hl with | [_, _], _ => rfl
  have F_look_rows := fun_mk (st := s_look_rows) l_look_rows c_look_rows k_look_rows
  have B_look_rows := F_look_rows.binds (ps := ["rows"]) fun _ _ _ _ _ _ us hl => match us, hl with | [_], _ => rfl
  have F_folded := fun_mk (st := s_folded) l_folded c_folded k_folded
  have B_folded := F_folded.binds (ps := ["text"]) fun _ _ _ _ _ _ us hl => match us, hl with | [_], _ => rfl
  have F_rank := fun_mk (st := s_rank) l_rank c_rank k_rank
  have B_rank := F_rank.binds (ps := ["row", "query"]) fun _ _ _ _ _ _ us hl => match us, hl with | [_, _], _ => rfl
  have F_best := fun_mk (st := s_best) l_best c_best k_best
  have B_best := F_best.binds (ps := ["rows", "query", "many"]) fun _ _ _ _ _ _ us hl => match us, hl with | [_, _, _], _ => rfl
  have F_needed := fun_mk (st := s_needed) l_needed c_needed k_needed
  have B_needed := F_needed.binds (ps := ["rows", "row", "many"]) fun _ _ _ _ _ _ us hl => match us, hl with | [_, _, _], _ => rfl
  have F_fewest_keys := fun_mk (st := s_fewest_keys) l_fewest_keys c_fewest_keys k_fewest_keys
  have B_fewest_keys := F_fewest_keys.binds (ps := ["rows", "many"]) fun _ _ _ _ _ _ us hl => match us, hl with | [_, _], _ => rfl
  have F__law_query := fun_mk (st := s__law_query) l__law_query c__law_query k__law_query
  have B__law_query := F__law_query.binds (ps := ["_law_script", "_law_town"]) fun _ _ _ _ _ _ us hl => match us, hl with | [_, _], _ => rfl
  have F_nexts := fun_mk (st := s_nexts) l_nexts c_nexts k_nexts
  have B_nexts := F_nexts.binds (ps := ["rows", "query"]) fun _ _ _ _ _ _ us hl => match us, hl with | [_, _], _ => rfl
  have F_alike := fun_mk (st := s_alike) l_alike c_alike k_alike
  have B_alike := F_alike.binds (ps := ["rows"]) fun _ _ _ _ _ _ us hl => match us, hl with | [_], _ => rfl
  have F__law_groups := fun_mk (st := s__law_groups) l__law_groups c__law_groups k__law_groups
  have B__law_groups := F__law_groups.binds (ps := ["_law_rows_here"]) fun _ _ _ _ _ _ us hl => match us, hl with | [_], _ => rfl
  have F_by_rank := fun_mk (st := s_by_rank) l_by_rank c_by_rank k_by_rank
  have B_by_rank := F_by_rank.binds (ps := ["rows", "query"]) fun _ _ _ _ _ _ us hl => match us, hl with | [_, _], _ => rfl
  have F_law := fun_mk (st := s_law) l_law c_law k_law
  have B_law := F_law.binds (ps := ["_law_script"]) fun _ _ _ _ _ _ us hl => match us, hl with | [_], _ => rfl
  refine ⟨PySem.W.fnOf "law" "law" (defArgs s_law) (defBody s_law) (defScope s_law) .none kV_law dc_law pm_law an_law cd_law ct_law, fun s v => .of_eq rfl, fun base _ _ => ?_⟩
  have C__law_cell : Cal P w K mg base 1 "_law_cell" (sp__law_cell (⟨K, 0, cT, cN, 0, 0, 0, 0, 0, 0⟩ : G)) := ⟨f__law_cell, _, _, (ok__law_cell (g := (⟨K, 0, cT, cN, 0, 0, 0, 0, 0, 0⟩ : G)) F__law_cell T ), PySem.W.mg_of X G0 a__law_cell, k__law_cell, B__law_cell⟩
  have C__law_mix : Cal P w K mg base 2 "_law_mix" (sp__law_mix (⟨K, 0, cT, cN, 0, 0, 0, 0, 0, 0⟩ : G)) := ⟨f__law_mix, _, _, (ok__law_mix (g := (⟨K, 0, cT, cN, 0, 0, 0, 0, 0, 0⟩ : G)) F__law_mix T C__law_cell), PySem.W.mg_of X G0 a__law_mix, k__law_mix, B__law_mix⟩
  have C__law_draw : Cal P w K mg base 3 "_law_draw" (sp__law_draw (⟨K, 0, cT, cN, 0, 0, 0, 0, 0, 0⟩ : G)) := ⟨f__law_draw, _, _, (ok__law_draw (g := (⟨K, 0, cT, cN, 0, 0, 0, 0, 0, 0⟩ : G)) F__law_draw T C__law_mix), PySem.W.mg_of X G0 a__law_draw, k__law_draw, B__law_draw⟩
  have C__law_pick : Cal P w K mg base 4 "_law_pick" (sp__law_pick (⟨K, 0, cT, cN, 0, 0, 0, 0, 0, 0⟩ : G)) := ⟨f__law_pick, _, _, (ok__law_pick (g := (⟨K, 0, cT, cN, 0, 0, 0, 0, 0, 0⟩ : G)) F__law_pick T C__law_draw), PySem.W.mg_of X G0 a__law_pick, k__law_pick, B__law_pick⟩
  have C__law_row : Cal P w K mg base 5 "_law_row" (sp__law_row (⟨K, 0, cT, cN, 0, 0, 0, 0, 0, 0⟩ : G)) := ⟨f__law_row, _, _, (ok__law_row (g := (⟨K, 0, cT, cN, 0, 0, 0, 0, 0, 0⟩ : G)) F__law_row T C__law_draw C__law_pick), PySem.W.mg_of X G0 a__law_row, k__law_row, B__law_row⟩
  have C__law_rows : Cal P w K mg base 6 "_law_rows" (sp__law_rows (⟨K, 0, cT, cN, 0, 0, 0, 0, 0, 0⟩ : G)) := ⟨f__law_rows, _, _, (ok__law_rows (g := (⟨K, 0, cT, cN, 0, 0, 0, 0, 0, 0⟩ : G)) F__law_rows T C__law_draw C__law_row C__law_pick), PySem.W.mg_of X G0 a__law_rows, k__law_rows, B__law_rows⟩
  have C__law_folded : Cal P w K mg base 1 "_law_folded" (sp__law_folded (⟨K, 0, cT, cN, 0, 0, 0, 0, 0, 0⟩ : G)) := ⟨f__law_folded, _, _, (ok__law_folded (g := (⟨K, 0, cT, cN, 0, 0, 0, 0, 0, 0⟩ : G)) F__law_folded T ), PySem.W.mg_of X G0 a__law_folded, k__law_folded, B__law_folded⟩
  have C__law_rank : Cal P w K mg base 2 "_law_rank" (sp__law_rank (⟨K, 0, cT, cN, 0, 0, 0, 0, 0, 0⟩ : G)) := ⟨f__law_rank, _, _, (ok__law_rank (g := (⟨K, 0, cT, cN, 0, 0, 0, 0, 0, 0⟩ : G)) F__law_rank T C__law_folded), PySem.W.mg_of X G0 a__law_rank, k__law_rank, B__law_rank⟩
  have C__law_best : Cal P w K mg base 3 "_law_best" (sp__law_best (⟨K, 0, cT, cN, 0, 0, 0, 0, 0, 0⟩ : G)) := ⟨f__law_best, _, _, (ok__law_best (g := (⟨K, 0, cT, cN, 0, 0, 0, 0, 0, 0⟩ : G)) F__law_best T C__law_rank C__law_folded), PySem.W.mg_of X G0 a__law_best, k__law_best, B__law_best⟩
  have C__law_needed : Cal P w K mg base 4 "_law_needed" (sp__law_needed (⟨K, 0, cT, cN, 0, 0, 0, 0, 0, 0⟩ : G)) := ⟨f__law_needed, _, _, (ok__law_needed (g := (⟨K, 0, cT, cN, 0, 0, 0, 0, 0, 0⟩ : G)) F__law_needed T C__law_folded C__law_best), PySem.W.mg_of X G0 a__law_needed, k__law_needed, B__law_needed⟩
  have C_look_many : Cal P w K mg base 1 "look_many" (sp_look_many (⟨K, 0, cT, cN, 0, 0, 0, 0, 0, 0⟩ : G)) := ⟨f_look_many, _, _, (ok_look_many (g := (⟨K, 0, cT, cN, 0, 0, 0, 0, 0, 0⟩ : G)) F_look_many T ), PySem.W.mg_of X G0 a_look_many, k_look_many, B_look_many⟩
  have C_look_text : Cal P w K mg base 1 "look_text" (sp_look_text (⟨K, 0, cT, cN, 0, 0, 0, 0, 0, 0⟩ : G)) := ⟨f_look_text, _, _, (ok_look_text (g := (⟨K, 0, cT, cN, 0, 0, 0, 0, 0, 0⟩ : G)) F_look_text T ), PySem.W.mg_of X G0 a_look_text, k_look_text, B_look_text⟩
  have C_look_rows : Cal P w K mg base 2 "look_rows" (sp_look_rows (⟨K, 0, cT, cN, 0, 0, 0, 0, 0, 0⟩ : G)) := ⟨f_look_rows, _, _, (ok_look_rows (g := (⟨K, 0, cT, cN, 0, 0, 0, 0, 0, 0⟩ : G)) F_look_rows T C_look_text), PySem.W.mg_of X G0 a_look_rows, k_look_rows, B_look_rows⟩
  have C_folded : Cal P w K mg base 2 "folded" (sp_folded (⟨K, 0, cT, cN, 0, 0, 0, 0, 0, 0⟩ : G)) := ⟨f_folded, _, _, (ok_folded (g := (⟨K, 0, cT, cN, 0, 0, 0, 0, 0, 0⟩ : G)) F_folded T C_look_text), PySem.W.mg_of X G0 a_folded, k_folded, B_folded⟩
  have C_rank : Cal P w K mg base 3 "rank" (sp_rank (⟨K, 0, cT, cN, 0, 0, 0, 0, 0, 0⟩ : G)) := ⟨f_rank, _, _, (ok_rank (g := (⟨K, 0, cT, cN, 0, 0, 0, 0, 0, 0⟩ : G)) F_rank T C_look_text C_folded), PySem.W.mg_of X G0 a_rank, k_rank, B_rank⟩
  have C_best : Cal P w K mg base 4 "best" (sp_best (⟨K, 0, cT, cN, 0, 0, 0, 0, 0, 0⟩ : G)) := ⟨f_best, _, _, (ok_best (g := (⟨K, 0, cT, cN, 0, 0, 0, 0, 0, 0⟩ : G)) F_best T C_folded C_rank), PySem.W.mg_of X G0 a_best, k_best, B_best⟩
  have C_needed : Cal P w K mg base 5 "needed" (sp_needed (⟨K, 0, cT, cN, 0, 0, 0, 0, 0, 0⟩ : G)) := ⟨f_needed, _, _, (ok_needed (g := (⟨K, 0, cT, cN, 0, 0, 0, 0, 0, 0⟩ : G)) F_needed T C_look_many C_look_rows C_look_text C_folded C_best), PySem.W.mg_of X G0 a_needed, k_needed, B_needed⟩
  have C_fewest_keys : Cal P w K mg base 6 "fewest_keys" (sp_fewest_keys (⟨K, 0, cT, cN, 0, 0, 0, 0, 0, 0⟩ : G)) := ⟨f_fewest_keys, _, _, (ok_fewest_keys (g := (⟨K, 0, cT, cN, 0, 0, 0, 0, 0, 0⟩ : G)) F_fewest_keys T C_look_many C_look_rows C_needed), PySem.W.mg_of X G0 a_fewest_keys, k_fewest_keys, B_fewest_keys⟩
  have C__law_query : Cal P w K mg base 5 "_law_query" (sp__law_query (⟨K, 0, cT, cN, 0, 0, 0, 0, 0, 0⟩ : G)) := ⟨f__law_query, _, _, (ok__law_query (g := (⟨K, 0, cT, cN, 0, 0, 0, 0, 0, 0⟩ : G)) F__law_query T C__law_draw C__law_pick), PySem.W.mg_of X G0 a__law_query, k__law_query, B__law_query⟩
  have C_nexts : Cal P w K mg base 4 "nexts" (sp_nexts (⟨K, 0, cT, cN, 0, 0, 0, 0, 0, 0⟩ : G)) := ⟨f_nexts, _, _, (ok_nexts (g := (⟨K, 0, cT, cN, 0, 0, 0, 0, 0, 0⟩ : G)) F_nexts T C_look_text C_look_rows C_rank), PySem.W.mg_of X G0 a_nexts, k_nexts, B_nexts⟩
  have C_alike : Cal P w K mg base 3 "alike" (sp_alike (⟨K, 0, cT, cN, 0, 0, 0, 0, 0, 0⟩ : G)) := ⟨f_alike, _, _, (ok_alike (g := (⟨K, 0, cT, cN, 0, 0, 0, 0, 0, 0⟩ : G)) F_alike T C_look_rows C_folded), PySem.W.mg_of X G0 a_alike, k_alike, B_alike⟩
  have C__law_groups : Cal P w K mg base 2 "_law_groups" (sp__law_groups (⟨K, 0, cT, cN, 0, 0, 0, 0, 0, 0⟩ : G)) := ⟨f__law_groups, _, _, (ok__law_groups (g := (⟨K, 0, cT, cN, 0, 0, 0, 0, 0, 0⟩ : G)) F__law_groups T C__law_folded), PySem.W.mg_of X G0 a__law_groups, k__law_groups, B__law_groups⟩
  have C_by_rank : Cal P w K mg base 4 "by_rank" (sp_by_rank (⟨K, 0, cT, cN, 0, 0, 0, 0, 0, 0⟩ : G)) := ⟨f_by_rank, _, _, (ok_by_rank (g := (⟨K, 0, cT, cN, 0, 0, 0, 0, 0, 0⟩ : G)) F_by_rank T C_look_text C_look_rows C_rank), PySem.W.mg_of X G0 a_by_rank, k_by_rank, B_by_rank⟩
  exact ok_law (g := (⟨K, 0, cT, cN, 0, 0, 0, 0, 0, 0⟩ : G)) F_law T C__law_rows C__law_draw C__law_pick C__law_needed C_needed C_fewest_keys C_best C__law_query C__law_folded C__law_rank C_nexts C_alike C__law_groups C_by_rank
end DL
open PySem PySem.W PyProof.Rows
set_option pp.maxSteps 300 in
set_option maxHeartbeats 0 in
theorem PySem.Challenge.cw_typeasks_k40_whole_studied_holds : PySem.Challenge.rw_typeasks_k40_whole_studied.Holds := by
  w_on; o_law; k_head; (case hw => w_witness2)
  k_fill
  refine L2.walk_of (l := PySem.Challenge.rw_typeasks_k40_whole_studied) (n := 63) (k := 7) (x := "_law_script") (CX := fun w => L2.CX (PySem.Challenge.rw_typeasks_k40_whole_studied).prog w) (sp := fun w => DL.sp_lawK _) rfl (by decide) rfl ⟨rfl, by decide, by decide⟩ (fun w h Y => PySem.W.kIn_of Y) ?F (fun w H a ns hl _ hS => DL.law_start hS) (fun w H s e s' c => DL.law_none c)
  case F =>
    intro w mg fa h KX G hmg
    refine' DL.all_mk KX G hmg ?a_BadText ?ex_BadText ?kp_BadText ?sb_BadText ?ty_BadText ?hg_BadText ?hk_BadText ?hd_BadText ?ha_BadText ?hm_BadText ?a_BadNumber ?ex_BadNumber ?kp_BadNumber ?sb_BadNumber ?ty_BadNumber ?hg_BadNumber ?hk_BadNumber ?hd_BadNumber ?ha_BadNumber ?hm_BadNumber ?hn ?ht ?z_len ?z_ord ?z_all ?z_sorted ?z_range ?z_min ?z_tuple ?z_list ?z_set ?z_int ?n_MOST_ROW ?n_MOST_TYPED ?n_MOST_ANSWER ?n_SIGNS ?n_RANKS ?a__law_cell ?l__law_cell ?c__law_cell ?k__law_cell ?a__law_mix ?l__law_mix ?c__law_mix ?k__law_mix ?a__law_draw ?l__law_draw ?c__law_draw ?k__law_draw ?a__law_pick ?l__law_pick ?c__law_pick ?k__law_pick ?a__law_row ?l__law_row ?c__law_row ?k__law_row ?a__law_rows ?l__law_rows ?c__law_rows ?k__law_rows ?a__law_folded ?l__law_folded ?c__law_folded ?k__law_folded ?a__law_rank ?l__law_rank ?c__law_rank ?k__law_rank ?a__law_best ?l__law_best ?c__law_best ?k__law_best ?a__law_needed ?l__law_needed ?c__law_needed ?k__law_needed ?a_look_many ?l_look_many ?c_look_many ?k_look_many ?a_look_text ?l_look_text ?c_look_text ?k_look_text ?a_look_rows ?l_look_rows ?c_look_rows ?k_look_rows ?a_folded ?l_folded ?c_folded ?k_folded ?a_rank ?l_rank ?c_rank ?k_rank ?a_best ?l_best ?c_best ?k_best ?a_needed ?l_needed ?c_needed ?k_needed ?a_fewest_keys ?l_fewest_keys ?c_fewest_keys ?k_fewest_keys ?a__law_query ?l__law_query ?c__law_query ?k__law_query ?a_nexts ?l_nexts ?c_nexts ?k_nexts ?a_alike ?l_alike ?c_alike ?k_alike ?a__law_groups ?l__law_groups ?c__law_groups ?k__law_groups ?a_by_rank ?l_by_rank ?c_by_rank ?k_by_rank ?a_law ?l_law ?c_law ?k_law
    (case a_BadText => k_is)
    (case ex_BadText => k_exc)
    (case kp_BadText => k_is)
    (case sb_BadText => k_is)
    (case ty_BadText => k_is)
    (case hg_BadText => k_is)
    (case hk_BadText => k_is)
    (case hd_BadText => k_is)
    (case ha_BadText => k_is)
    (case hm_BadText => k_is)
    (case a_BadNumber => k_is)
    (case ex_BadNumber => k_exc)
    (case kp_BadNumber => k_is)
    (case sb_BadNumber => k_is)
    (case ty_BadNumber => k_is)
    (case hg_BadNumber => k_is)
    (case hk_BadNumber => k_is)
    (case hd_BadNumber => k_is)
    (case ha_BadNumber => k_is)
    (case hm_BadNumber => k_is)
    (case hn => k_is)
    (case ht => k_is)
    (case z_len => k_is)
    (case z_ord => k_is)
    (case z_all => k_is)
    (case z_sorted => k_is)
    (case z_range => k_is)
    (case z_min => k_is)
    (case z_tuple => k_is)
    (case z_list => k_is)
    (case z_set => k_is)
    (case z_int => k_is)
    (case n_MOST_ROW => k_is)
    (case n_MOST_TYPED => k_is)
    (case n_MOST_ANSWER => k_is)
    (case n_SIGNS => k_is)
    (case n_RANKS => k_is)
    (case a__law_cell => k_is)
    (case l__law_cell => k_is)
    (case c__law_cell => k_is)
    (case k__law_cell => k_is)
    (case a__law_mix => k_is)
    (case l__law_mix => k_is)
    (case c__law_mix => k_is)
    (case k__law_mix => k_is)
    (case a__law_draw => k_is)
    (case l__law_draw => k_is)
    (case c__law_draw => k_is)
    (case k__law_draw => k_is)
    (case a__law_pick => k_is)
    (case l__law_pick => k_is)
    (case c__law_pick => k_is)
    (case k__law_pick => k_is)
    (case a__law_row => k_is)
    (case l__law_row => k_is)
    (case c__law_row => k_is)
    (case k__law_row => k_is)
    (case a__law_rows => k_is)
    (case l__law_rows => k_is)
    (case c__law_rows => k_is)
    (case k__law_rows => k_is)
    (case a__law_folded => k_is)
    (case l__law_folded => k_is)
    (case c__law_folded => k_is)
    (case k__law_folded => k_is)
    (case a__law_rank => k_is)
    (case l__law_rank => k_is)
    (case c__law_rank => k_is)
    (case k__law_rank => k_is)
    (case a__law_best => k_is)
    (case l__law_best => k_is)
    (case c__law_best => k_is)
    (case k__law_best => k_is)
    (case a__law_needed => k_is)
    (case l__law_needed => k_is)
    (case c__law_needed => k_is)
    (case k__law_needed => k_is)
    (case a_look_many => k_is)
    (case l_look_many => k_is)
    (case c_look_many => k_is)
    (case k_look_many => k_is)
    (case a_look_text => k_is)
    (case l_look_text => k_is)
    (case c_look_text => k_is)
    (case k_look_text => k_is)
    (case a_look_rows => k_is)
    (case l_look_rows => k_is)
    (case c_look_rows => k_is)
    (case k_look_rows => k_is)
    (case a_folded => k_is)
    (case l_folded => k_is)
    (case c_folded => k_is)
    (case k_folded => k_is)
    (case a_rank => k_is)
    (case l_rank => k_is)
    (case c_rank => k_is)
    (case k_rank => k_is)
    (case a_best => k_is)
    (case l_best => k_is)
    (case c_best => k_is)
    (case k_best => k_is)
    (case a_needed => k_is)
    (case l_needed => k_is)
    (case c_needed => k_is)
    (case k_needed => k_is)
    (case a_fewest_keys => k_is)
    (case l_fewest_keys => k_is)
    (case c_fewest_keys => k_is)
    (case k_fewest_keys => k_is)
    (case a__law_query => k_is)
    (case l__law_query => k_is)
    (case c__law_query => k_is)
    (case k__law_query => k_is)
    (case a_nexts => k_is)
    (case l_nexts => k_is)
    (case c_nexts => k_is)
    (case k_nexts => k_is)
    (case a_alike => k_is)
    (case l_alike => k_is)
    (case c_alike => k_is)
    (case k_alike => k_is)
    (case a__law_groups => k_is)
    (case l__law_groups => k_is)
    (case c__law_groups => k_is)
    (case k__law_groups => k_is)
    (case a_by_rank => k_is)
    (case l_by_rank => k_is)
    (case c_by_rank => k_is)
    (case k_by_rank => k_is)
    (case a_law => k_is)
    (case l_law => k_is)
    (case c_law => k_is)
    (case k_law => k_is)
