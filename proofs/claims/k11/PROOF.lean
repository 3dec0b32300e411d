import PyProof.Rows.All
import Wide.All
import OpenK.AllK
import Wide.FinOn
import PySem.Challenge.RW_looksfit_k11_whole_tokens
import HandS.ForExc
import HandS.Lambda
import HandS.ExcValue
import HandS.Text
import HandS.Comp
import HandS.Iter
import HandS.WordsExc
import HandS.Defaults
import HandS.IsInst
import HandS.RaiseMore
import HandS.TupAny
import HandS.Wide
import PyProof.ReprRoads
import PyProof.StrBlock2
import PyProof.Rows.SeqMore
import PyProof.EqLayable
import HandS.Steps
import HandS.Dict
import KE.KExcSuper
import KE.KSuper
import HandS.HeadHook1
import HandS.ExcIs
import HandS.ExcField
import KE.KExcIs
import KE.KNest
import PyProof.ListStr
import HandS.EndTab
import HandS.HeadWalk
import HandS.HeadHook4
import PyProof.ReprLen
import HandS.HeadHook2
import HandS.Head0
import HandS.Head1
import HandS.Head2
import HandS.HeadEnd
section -- DL1
set_option Elab.async false
set_option linter.all false
set_option maxRecDepth 100000
set_option maxHeartbeats 2000000
/-! DL1: data (D), how the abstract heap bears it (Rep), states with owned lists (SRep). -/
namespace DL
open PySem PySem.Spec L2

/-- plain data -/
inductive D where
  | non | bl (b : Bool) | int (i : Int) | str (x : Str)
  | tup (l : List D) | lst (l : List D)
  | dk (l : List (Key × D)) | dt (l : List (List Key × D))
  | raw (v : V)
  | fn (f c : Addr) (q : Str) (vs : List V) (ds : List D)
  | exn0 (C : Addr)
  | exn1 (C : Addr) (n : Str) (d : D)

mutual
/-- no list, no dict within -/
@[simp] def D.imm : D → Bool
  | .tup l => immAll l
  | .lst _ => false
  | .dk _ => false
  | .dt _ => false
  | .raw _ => false
  | .fn _ _ _ _ _ => false
  | .exn0 _ => false
  | .exn1 _ _ _ => false
  | _ => true
@[simp] def immAll : List D → Bool
  | [] => true
  | d :: ds => d.imm && immAll ds
end

abbrev AS := Addr → Prop
/-- an exception object as a value: its class, its own dict -/
def ExV (C : Addr) (dd : Option Addr) (a : Addr) : HO := .ext fun h => ∃ (oe : Obj) (vs : Array Value), h.get? a = some oe ∧ Zc (.ref C) dd oe ∧ oe.data = .fields vs

/-- a list, a tuple of the module's own top -/
def KL (K : PySem.W.Frag) (a : Addr) (xs : List V) : Prop :=
  ∃ (o : Obj) (its : Array Value) (n : Nat), K.lookup a = some o ∧ o.cls = .type "list" ∧ o.dict = none ∧ o.data = .seq its n ∧ its.size ≤ sizeLine ∧ Vals xs its.toList
def KT (K : PySem.W.Frag) (a : Addr) (xs : List V) : Prop :=
  ∃ (o : Obj) (its : Array Value) (n : Nat), K.lookup a = some o ∧ o.cls = .type "tuple" ∧ o.data = .seq its n ∧ its.size ≤ sizeLine ∧ Vals xs its.toList
/-- read: tracked at no avoided address, or the module's own -/
def SqLA (K : PySem.W.Frag) (Av : AS) (H : Hp) (a : Addr) (xs : List V) : Prop := (Rd H a (.lst xs) ∧ ¬ Av a) ∨ KL K a xs
def SqTA (K : PySem.W.Frag) (Av : AS) (H : Hp) (a : Addr) (xs : List V) : Prop := (Rd H a (.tup xs) ∧ ¬ Av a) ∨ KT K a xs
theorem SqLA.sq {K : PySem.W.Frag} {Av : AS} {H : Hp} {a : Addr} {xs : List V} (h : SqLA K Av H a xs) : SqL K H a xs := h.elim (fun z => .inl z.1) .inr
theorem SqTA.sq {K : PySem.W.Frag} {Av : AS} {H : Hp} {a : Addr} {xs : List V} (h : SqTA K Av H a xs) : SqT K H a xs := h.elim (fun z => .inl z.1) .inr
theorem SqLA.av {K : PySem.W.Frag} {Av Av' : AS} {H : Hp} {a : Addr} {xs : List V} (hs : ∀ b, Av' b → Av b) (h : SqLA K Av H a xs) : SqLA K Av' H a xs := h.elim (fun z => .inl ⟨z.1, fun y => z.2 (hs _ y)⟩) .inr
theorem SqTA.av {K : PySem.W.Frag} {Av Av' : AS} {H : Hp} {a : Addr} {xs : List V} (hs : ∀ b, Av' b → Av b) (h : SqTA K Av H a xs) : SqTA K Av' H a xs := h.elim (fun z => .inl ⟨z.1, fun y => z.2 (hs _ y)⟩) .inr

mutual
inductive Rep (K : PySem.W.Frag) (Av : AS) (H : Hp) : V → D → Prop
  | non : Rep K Av H .non .non
  | bl (b : Bool) : Rep K Av H (.bl b) (.bl b)
  | int (i : Int) : Rep K Av H (.int i) (.int i)
  | str (x : Str) : Rep K Av H (.str x) (.str x)
  | raw (v : V) : Rep K Av H v (.raw v)
  | fn {f c : Addr} {q : Str} {vs : List V} {ds : List D} : H c = some (LamX.CodeO c q) → ¬ Av c → RepAll K Av H vs ds → Rep K Av H (.ref f) (.fn f c q vs ds)
  | exn0 {a C : Addr} : H a = some (ExV C none a) → ¬ Av a → Rep K Av H (.ref a) (.exn0 C)
  | exn1 {a C b : Addr} {n : Str} {u : V} {d : D} : H a = some (ExV C (some b) a) → ¬ Av a → H b = some (.xd [(n, u)]) → ¬ Av b → Rep K Av H u d → Rep K Av H (.ref a) (.exn1 C n d)
  | tup {a : Addr} {xs : List V} {l : List D} : SqTA K Av H a xs → RepAll K Av H xs l → Rep K Av H (.ref a) (.tup l)
  | lst {a : Addr} {xs : List V} {l : List D} : SqLA K Av H a xs → RepAll K Av H xs l → Rep K Av H (.ref a) (.lst l)
  | dk {a : Addr} {xs : List (Key × V)} {l : List (Key × D)} : H a = some (.dK xs) → ¬ Av a → RepK K Av H xs l → Rep K Av H (.ref a) (.dk l)
  | dt {a : Addr} {xs : List (List Key × V)} {l : List (List Key × D)} : H a = some (.dT xs) → ¬ Av a → RepT K Av H xs l → Rep K Av H (.ref a) (.dt l)
inductive RepAll (K : PySem.W.Frag) (Av : AS) (H : Hp) : List V → List D → Prop
  | nil : RepAll K Av H [] []
  | cons {v : V} {vs : List V} {d : D} {ds : List D} : Rep K Av H v d → RepAll K Av H vs ds → RepAll K Av H (v :: vs) (d :: ds)
inductive RepK (K : PySem.W.Frag) (Av : AS) (H : Hp) : List (Key × V) → List (Key × D) → Prop
  | nil : RepK K Av H [] []
  | cons {k : Key} {v : V} {vs : List (Key × V)} {d : D} {ds : List (Key × D)} : Rep K Av H v d → RepK K Av H vs ds → RepK K Av H ((k, v) :: vs) ((k, d) :: ds)
inductive RepT (K : PySem.W.Frag) (Av : AS) (H : Hp) : List (List Key × V) → List (List Key × D) → Prop
  | nil : RepT K Av H [] []
  | cons {k : List Key} {v : V} {vs : List (List Key × V)} {d : D} {ds : List (List Key × D)} : Rep K Av H v d → RepT K Av H vs ds → RepT K Av H ((k, v) :: vs) ((k, d) :: ds)
end

/-- what is tracked outside S stays -/
def Ch (S : AS) (H H' : Hp) : Prop := ∀ b o, ¬ S b → H b = some o → H' b = some o
theorem Ch.refl {S : AS} {H : Hp} : Ch S H H := fun _ _ _ h => h
theorem Ch.trans {S : AS} {H H1 H2 : Hp} (a : Ch S H H1) (b : Ch S H1 H2) : Ch S H H2 := fun c o n h => b c o n (a c o n h)
theorem Ch.mono {S S' : AS} {H H1 : Hp} (a : Ch S H H1) (h : ∀ b, S b → S' b) : Ch S' H H1 := fun c o n e => a c o (fun z => n (h c z)) e
theorem Ch.new {S : AS} {H : Hp} {p : Addr} {o : HO} (h : H p = none) : Ch S H (upd H p o) := fun b u _ e => by
  rw [upd_ne (ne_of_none e h)]; exact e

section
variable {K : PySem.W.Frag} {Av Av' S : AS} {H H' : Hp}
theorem Rd.ch {a : Addr} {o : HO} (c : Ch S H H') (n : ¬ S a) (h : Rd H a o) : Rd H' a o := h.elim (fun z => .inl (c _ _ n z)) fun ⟨u, z⟩ => .inr ⟨u, c _ _ n z⟩
theorem SqLA.ch {a : Addr} {xs : List V} (c : Ch S H H') (hs : ∀ b, S b → Av b) (h : SqLA K Av H a xs) : SqLA K Av H' a xs := h.elim (fun z => .inl ⟨Rd.ch c (fun y => z.2 (hs _ y)) z.1, z.2⟩) .inr
theorem SqTA.ch {a : Addr} {xs : List V} (c : Ch S H H') (hs : ∀ b, S b → Av b) (h : SqTA K Av H a xs) : SqTA K Av H' a xs := h.elim (fun z => .inl ⟨Rd.ch c (fun y => z.2 (hs _ y)) z.1, z.2⟩) .inr
mutual
theorem Rep.ch (c : Ch S H H') (hs : ∀ b, S b → Av b) : ∀ {v : V} {d : D}, Rep K Av H v d → Rep K Av H' v d
  | _, _, .non => .non
  | _, _, .bl b => .bl b
  | _, _, .int i => .int i
  | _, _, .str x => .str x
  | _, _, @Rep.raw _ _ _ v => Rep.raw v
  | _, _, .fn h n r => .fn (c _ _ (fun z => n (hs _ z)) h) n (RepAll.ch c hs r)
  | _, _, .exn0 h n => .exn0 (c _ _ (fun z => n (hs _ z)) h) n
  | _, _, .exn1 h n h2 n2 r => .exn1 (c _ _ (fun z => n (hs _ z)) h) n (c _ _ (fun z => n2 (hs _ z)) h2) n2 (Rep.ch c hs r)
  | _, _, .tup h r => .tup (h.ch c hs) (RepAll.ch c hs r)
  | _, _, .lst h r => .lst (h.ch c hs) (RepAll.ch c hs r)
  | _, _, .dk h n r => .dk (c _ _ (fun z => n (hs _ z)) h) n (RepK.ch c hs r)
  | _, _, .dt h n r => .dt (c _ _ (fun z => n (hs _ z)) h) n (RepT.ch c hs r)
theorem RepAll.ch (c : Ch S H H') (hs : ∀ b, S b → Av b) : ∀ {v : List V} {d : List D}, RepAll K Av H v d → RepAll K Av H' v d
  | _, _, .nil => .nil
  | _, _, .cons r t => .cons (Rep.ch c hs r) (RepAll.ch c hs t)
theorem RepK.ch (c : Ch S H H') (hs : ∀ b, S b → Av b) : ∀ {v : List (Key × V)} {d : List (Key × D)}, RepK K Av H v d → RepK K Av H' v d
  | _, _, .nil => .nil
  | _, _, .cons r t => .cons (Rep.ch c hs r) (RepK.ch c hs t)
theorem RepT.ch (c : Ch S H H') (hs : ∀ b, S b → Av b) : ∀ {v : List (List Key × V)} {d : List (List Key × D)}, RepT K Av H v d → RepT K Av H' v d
  | _, _, .nil => .nil
  | _, _, .cons r t => .cons (Rep.ch c hs r) (RepT.ch c hs t)
end
mutual
/-- avoiding less -/
theorem Rep.av (hs : ∀ b, Av' b → Av b) : ∀ {v : V} {d : D}, Rep K Av H v d → Rep K Av' H v d
  | _, _, .non => .non
  | _, _, .bl b => .bl b
  | _, _, .int i => .int i
  | _, _, .str x => .str x
  | _, _, @Rep.raw _ _ _ v => Rep.raw v
  | _, _, .fn h n r => .fn h (fun z => n (hs _ z)) (RepAll.av hs r)
  | _, _, .exn0 h n => .exn0 h (fun z => n (hs _ z))
  | _, _, .exn1 h n h2 n2 r => .exn1 h (fun z => n (hs _ z)) h2 (fun z => n2 (hs _ z)) (Rep.av hs r)
  | _, _, .tup h r => .tup (h.av hs) (RepAll.av hs r)
  | _, _, .lst h r => .lst (h.av hs) (RepAll.av hs r)
  | _, _, .dk h n r => .dk h (fun z => n (hs _ z)) (RepK.av hs r)
  | _, _, .dt h n r => .dt h (fun z => n (hs _ z)) (RepT.av hs r)
theorem RepAll.av (hs : ∀ b, Av' b → Av b) : ∀ {v : List V} {d : List D}, RepAll K Av H v d → RepAll K Av' H v d
  | _, _, .nil => .nil
  | _, _, .cons r t => .cons (Rep.av hs r) (RepAll.av hs t)
theorem RepK.av (hs : ∀ b, Av' b → Av b) : ∀ {v : List (Key × V)} {d : List (Key × D)}, RepK K Av H v d → RepK K Av' H v d
  | _, _, .nil => .nil
  | _, _, .cons r t => .cons (Rep.av hs r) (RepK.av hs t)
theorem RepT.av (hs : ∀ b, Av' b → Av b) : ∀ {v : List (List Key × V)} {d : List (List Key × D)}, RepT K Av H v d → RepT K Av' H v d
  | _, _, .nil => .nil
  | _, _, .cons r t => .cons (Rep.av hs r) (RepT.av hs t)
end
/-- an address at which a list or a dict of ours stands, no tuple -/
def Box (H : Hp) (b : Addr) : Prop := (∃ xs, H b = some (.lst xs)) ∨ (∃ xs, H b = some (.dK xs)) ∨ (∃ xs, H b = some (.dT xs))
theorem Box.noT {a : Addr} {xs : List V} (b : Box H a) : ¬ Rd H a (.tup xs) := by
  rintro (h | ⟨o, h⟩) <;> rcases b with ⟨ys, e⟩ | ⟨ys, e⟩ | ⟨ys, e⟩ <;> (rw [e] at h; cases h)
mutual
/-- plain tuples avoid every list and dict of ours -/
theorem Rep.immAv (hs : ∀ b, Av' b → Av b ∨ Box H b) : ∀ {v : V} {d : D}, d.imm = true → Rep K Av H v d → Rep K Av' H v d
  | _, _, _, .non => .non
  | _, _, _, .bl b => .bl b
  | _, _, _, .int i => .int i
  | _, _, _, .str x => .str x
  | _, .raw _, h, _ => by simp [D.imm] at h
  | _, _, h, .fn _ _ _ => by simp [D.imm] at h
  | _, _, h, .exn0 _ _ => by simp [D.imm] at h
  | _, _, h, .exn1 _ _ _ _ _ => by simp [D.imm] at h
  | _, _, h, .tup t r => .tup (t.elim (fun y => .inl ⟨y.1, fun z => (hs _ z).elim y.2 fun b => Box.noT b y.1⟩) .inr) (RepAll.immAv hs (by simpa [D.imm] using h) r)
  | _, _, h, .lst t r => by simp [D.imm] at h
  | _, _, h, .dk t n r => by simp [D.imm] at h
  | _, _, h, .dt t n r => by simp [D.imm] at h
theorem RepAll.immAv (hs : ∀ b, Av' b → Av b ∨ Box H b) : ∀ {v : List V} {d : List D}, immAll d = true → RepAll K Av H v d → RepAll K Av' H v d
  | _, _, _, .nil => .nil
  | _, _, h, .cons r t => by
    rw [immAll, Bool.and_eq_true] at h
    exact .cons (Rep.immAv hs h.1 r) (RepAll.immAv hs h.2 t)
end
theorem RepAll.length : ∀ {vs : List V} {ds : List D}, RepAll K Av H vs ds → vs.length = ds.length
  | _, _, .nil => rfl
  | _, _, .cons _ t => by rw [List.length_cons, List.length_cons, t.length]
theorem RepAll.get : ∀ {vs : List V} {ds : List D} {i : Nat} {d : D}, RepAll K Av H vs ds → ds[i]? = some d → ∃ v, vs[i]? = some v ∧ Rep K Av H v d
  | _, _, _, _, .nil, h => by simp at h
  | _, _, 0, _, .cons r _, h => ⟨_, rfl, by simp at h; exact h ▸ r⟩
  | _, _, i + 1, _, .cons _ t, h => by
    obtain ⟨v, e, r⟩ := t.get (i := i) (by simpa using h)
    exact ⟨v, by simpa using e, r⟩
theorem RepAll.getV : ∀ {vs : List V} {ds : List D} {i : Nat} {v : V}, RepAll K Av H vs ds → vs[i]? = some v → ∃ d, ds[i]? = some d ∧ Rep K Av H v d
  | _, _, _, _, .nil, h => by simp at h
  | _, _, 0, _, .cons r _, h => ⟨_, rfl, by simp at h; exact h ▸ r⟩
  | _, _, i + 1, _, .cons _ t, h => by
    obtain ⟨v, e, r⟩ := t.getV (i := i) (by simpa using h)
    exact ⟨v, by simpa using e, r⟩
theorem RepAll.app : ∀ {vs us : List V} {ds es : List D}, RepAll K Av H vs ds → RepAll K Av H us es → RepAll K Av H (vs ++ us) (ds ++ es)
  | _, _, _, _, .nil, s => s
  | _, _, _, _, .cons r t, s => .cons r (t.app s)
theorem RepAll.drop : ∀ {vs : List V} {ds : List D} (n : Nat), RepAll K Av H vs ds → RepAll K Av H (vs.drop n) (ds.drop n)
  | _, _, 0, r => r
  | _, _, _ + 1, .nil => .nil
  | _, _, n + 1, .cons _ t => t.drop n
theorem RepAll.take : ∀ {vs : List V} {ds : List D} (n : Nat), RepAll K Av H vs ds → RepAll K Av H (vs.take n) (ds.take n)
  | _, _, 0, _ => .nil
  | _, _, _ + 1, .nil => .nil
  | _, _, n + 1, .cons r t => .cons r (t.take n)
theorem RepAll.eraseIdx : ∀ {vs : List V} {ds : List D} (n : Nat), RepAll K Av H vs ds → RepAll K Av H (vs.eraseIdx n) (ds.eraseIdx n)
  | _, _, _, .nil => .nil
  | _, _, 0, .cons _ t => t
  | _, _, n + 1, .cons r t => .cons r (t.eraseIdx n)
theorem RepAll.set {v : V} {d : D} (q : Rep K Av H v d) : ∀ {vs : List V} {ds : List D} (n : Nat), RepAll K Av H vs ds → RepAll K Av H (vs.set n v) (ds.set n d)
  | _, _, _, .nil => .nil
  | _, _, 0, .cons _ t => .cons q t
  | _, _, n + 1, .cons r t => .cons r (t.set q n)
theorem RepAll.rev : ∀ {vs : List V} {ds : List D}, RepAll K Av H vs ds → RepAll K Av H vs.reverse ds.reverse
  | _, _, .nil => .nil
  | _, _, .cons r t => by rw [List.reverse_cons, List.reverse_cons]; exact t.rev.app (.cons r .nil)
/-- scalars stand by themselves -/
theorem Rep.int_inv {v : V} {i : Int} (r : Rep K Av H v (.int i)) : v = .int i := by cases r; rfl
theorem Rep.str_inv {v : V} {i : Str} (r : Rep K Av H v (.str i)) : v = .str i := by cases r; rfl
theorem Rep.bl_inv {v : V} {i : Bool} (r : Rep K Av H v (.bl i)) : v = .bl i := by cases r; rfl
theorem Rep.non_inv {v : V} (r : Rep K Av H v .non) : v = .non := by cases r; rfl
theorem Rep.raw_inv {v u : V} (r : Rep K Av H v (.raw u)) : v = u := by cases r; rfl
theorem Rep.fn_inv {v : V} {f c : Addr} {q : Str} {vs : List V} {ds : List D} (r : Rep K Av H v (.fn f c q vs ds)) : v = .ref f ∧ H c = some (LamX.CodeO c q) ∧ ¬ Av c ∧ RepAll K Av H vs ds := by
  cases r with
  | fn h n r => exact ⟨rfl, h, n, r⟩
theorem Rep.exn1_inv {v : V} {C : Addr} {n : Str} {d : D} (r : Rep K Av H v (.exn1 C n d)) : ∃ a b u, v = .ref a ∧ H a = some (ExV C (some b) a) ∧ H b = some (.xd [(n, u)]) ∧ Rep K Av H u d := by
  cases r with
  | exn1 h n h2 n2 r => exact ⟨_, _, _, rfl, h, h2, r⟩
theorem Rep.tup_inv {v : V} {l : List D} (r : Rep K Av H v (.tup l)) : ∃ a xs, v = .ref a ∧ SqTA K Av H a xs ∧ RepAll K Av H xs l := by
  cases r with
  | tup h r => exact ⟨_, _, rfl, h, r⟩
theorem Rep.lst_inv {v : V} {l : List D} (r : Rep K Av H v (.lst l)) : ∃ a xs, v = .ref a ∧ SqLA K Av H a xs ∧ RepAll K Av H xs l := by
  cases r with
  | lst h r => exact ⟨_, _, rfl, h, r⟩
theorem Rep.dk_inv {v : V} {l : List (Key × D)} (r : Rep K Av H v (.dk l)) : ∃ a xs, v = .ref a ∧ H a = some (.dK xs) ∧ ¬ Av a ∧ RepK K Av H xs l := by
  cases r with
  | dk h n r => exact ⟨_, _, rfl, h, n, r⟩
theorem Rep.dt_inv {v : V} {l : List (List Key × D)} (r : Rep K Av H v (.dt l)) : ∃ a xs, v = .ref a ∧ H a = some (.dT xs) ∧ ¬ Av a ∧ RepT K Av H xs l := by
  cases r with
  | dt h n r => exact ⟨_, _, rfl, h, n, r⟩
end
end DL

end

section -- DL2
set_option Elab.async false
set_option linter.all false
set_option maxRecDepth 100000
set_option maxHeartbeats 2000000
/-! DL2: states with owned lists (SRep), values (VRep), what is kept. -/
namespace DL
open PySem PySem.Spec L2

/-- the record of draws -/
structure W where
  large : List Int
  cells : List Int
  rest : Int
  turn : Int
  key : Str
  T : List (Addr × Str) := []
/-- where the record of draws stands -/
structure Dr where
  d : Addr
  l : Addr
  c : Addr
  T : List (Addr × Str)
def DrS (dr : Option Dr) : AS := fun b => ∃ r, dr = some r ∧ (b = r.d ∨ b = r.l ∨ b = r.c ∨ ∃ p ∈ r.T, b = p.1)
def WRep (dr : Option Dr) (w : W) (H : Hp) : Prop := (w.T ≠ [] → ∃ r, dr = some r ∧ r.T = w.T) ∧ ∀ r, dr = some r →
  H r.d = some (.dK [(.inr "large", .ref r.l), (.inr "cells", .ref r.c), (.inr "rest", .int w.rest), (.inr w.key, .int w.turn)]) ∧ H r.l = some (.lst (w.large.map V.int)) ∧ H r.c = some (.lst (w.cells.map V.int)) ∧ r.l ≠ r.c ∧ LamX.Tabs r.T H
theorem tabs_mut {T : List (Addr × Str)} {H : Hp} {a : Addr} {o : HO} (t : LamX.Tabs T H) (b : Box H a) : LamX.Tabs T (upd H a o) := fun p hp => by
  obtain ⟨ps, h1, h2, h3⟩ := t p hp
  have ne : ∀ c u, H c = some u → (∀ xs, u ≠ .lst xs) → (∀ xs, u ≠ .dK xs) → (∀ xs, u ≠ .dT xs) → c ≠ a := fun c u e n1 n2 n3 z => by
    subst z
    rcases b with ⟨xs, e2⟩ | ⟨xs, e2⟩ | ⟨xs, e2⟩ <;> rw [e] at e2 <;> cases e2
    · exact n1 _ rfl
    · exact n2 _ rfl
    · exact n3 _ rfl
  refine ⟨ps, by rw [upd_ne (ne _ _ h1 (fun _ z => by cases z) (fun _ z => by cases z) fun _ z => by cases z)]; exact h1, h2, fun pos cv hc => ?_⟩
  obtain ⟨c, e1, e2⟩ := h3 pos cv hc
  refine ⟨c, e1, ?_⟩
  rw [upd_ne (ne _ _ e2 (fun _ z => by unfold LamX.CodeO at z; cases z) (fun _ z => by unfold LamX.CodeO at z; cases z) fun _ z => by unfold LamX.CodeO at z; cases z)]
  exact e2

/-- slots: nothing known; data that is shared; an owned list (locked while an expression holds it); the record of draws -/
inductive Sl where
  | no | sh (d : D) | own (d : D) | lck (d : D) | dr
structure S where
  w : W
  e : List Sl
structure Ex where
  cls : Addr
  f : Option (Str × D)
/-- an expression's end -/
inductive RE where
  | val (r : Sl) (s : S)
  | exc (x : Ex) (w : W)
/-- a statement's end -/
inductive Fl where
  | nx (s : S) | rt (r : Sl) (s : S) | bk (s : S) | ct (s : S) | exc (x : Ex) (w : W)
inductive RT where
  | tv (b : Bool) (s : S)
  | exc (x : Ex) (w : W)
abbrev TEf := S → Option RE
abbrev TTf := S → Option RT
abbrev TSf := S → Option Fl

/-- something stands there, and no thing that never changes -/
def Solid (H : Hp) (b : Addr) : Prop := H b ≠ none ∧ ∀ φ, H b ≠ some (.ext φ)
theorem Box.solid {H : Hp} {b : Addr} (h : Box H b) : Solid H b := by
  rcases h with ⟨xs, e⟩ | ⟨xs, e⟩ | ⟨xs, e⟩ <;> exact ⟨by rw [e]; simp, fun φ z => by rw [e] at z; cases z⟩
/-- what a def's run leans on: addresses that nothing reaches, the heap at the entry, the record of draws -/
structure GC where
  A : AS
  H0 : Hp
  dr : Option Dr

def OwnS (σ : St) (e : List Sl) : AS := fun b => ∃ (i : Nat) (d : D), (e[i]? = some (DL.Sl.own d) ∨ e[i]? = some (DL.Sl.lck d)) ∧ σ[i]? = some (some (L2.V.ref b))
def Own1 (σ : St) (e : List Sl) : AS := fun b => ∃ (i : Nat) (d : D), e[i]? = some (DL.Sl.own d) ∧ σ[i]? = some (some (L2.V.ref b))
theorem Own1.to {σ : St} {e : List Sl} {b : Addr} (h : Own1 σ e b) : OwnS σ e b := let ⟨i, d, a, c⟩ := h; ⟨i, d, .inl a, c⟩
def AvA (G : GC) (σ : St) (e : List Sl) (x : Option Addr) : AS := fun b => G.A b ∨ DrS G.dr b ∨ OwnS σ e b ∨ x = some b
def AvP (G : GC) (σ : St) (e : List Sl) (x : Option Addr) : AS := fun b => G.A b ∨ DrS G.dr b ∨ Own1 σ e b ∨ x = some b
theorem AvP.to {G : GC} {σ : St} {e : List Sl} {x : Option Addr} {b : Addr} (h : AvP G σ e x b) : AvA G σ e x b := by
  rcases h with h | h | h | h
  · exact .inl h
  · exact .inr (.inl h)
  · exact .inr (.inr (.inl h.to))
  · exact .inr (.inr (.inr h))

/-- an owned list, dict -/
def OwnRep (K : PySem.W.Frag) (Av : AS) (H : Hp) (a : Addr) : D → Prop
  | .lst l => ∃ xs, H a = some (.lst xs) ∧ RepAll K Av H xs l
  | .dk l => ∃ xs, H a = some (.dK xs) ∧ RepK K Av H xs l
  | .dt l => ∃ xs, H a = some (.dT xs) ∧ RepT K Av H xs l
  | _ => False
section
variable {K : PySem.W.Frag} {Av Av' T : AS} {H H' : Hp} {a : Addr} {d : D}
theorem OwnRep.ch (c : Ch T H H') (hs : ∀ b, T b → Av b) (n : ¬ T a) (h : OwnRep K Av H a d) : OwnRep K Av H' a d := by
  cases d with
  | lst l => obtain ⟨xs, e, r⟩ := h; exact ⟨xs, c _ _ n e, r.ch c hs⟩
  | dk l => obtain ⟨xs, e, r⟩ := h; exact ⟨xs, c _ _ n e, r.ch c hs⟩
  | dt l => obtain ⟨xs, e, r⟩ := h; exact ⟨xs, c _ _ n e, r.ch c hs⟩
  | _ => exact h.elim
theorem OwnRep.av (hs : ∀ b, Av' b → Av b) (h : OwnRep K Av H a d) : OwnRep K Av' H a d := by
  cases d with
  | lst l => obtain ⟨xs, e, r⟩ := h; exact ⟨xs, e, r.av hs⟩
  | dk l => obtain ⟨xs, e, r⟩ := h; exact ⟨xs, e, r.av hs⟩
  | dt l => obtain ⟨xs, e, r⟩ := h; exact ⟨xs, e, r.av hs⟩
  | _ => exact h.elim
theorem OwnRep.box (h : OwnRep K Av H a d) : Box H a := by
  cases d with
  | lst l => obtain ⟨xs, e, r⟩ := h; exact .inl ⟨xs, e⟩
  | dk l => obtain ⟨xs, e, r⟩ := h; exact .inr (.inl ⟨xs, e⟩)
  | dt l => obtain ⟨xs, e, r⟩ := h; exact .inr (.inr ⟨xs, e⟩)
  | _ => exact h.elim
theorem Box.some (b : Box H a) : H a ≠ none := by
  rcases b with ⟨ys, e⟩ | ⟨ys, e⟩ | ⟨ys, e⟩ <;> (rw [e]; simp)
theorem OwnRep.rep (n : ¬ Av a) (h : OwnRep K Av H a d) : Rep K Av H (.ref a) d := by
  cases d with
  | lst l => obtain ⟨xs, e, r⟩ := h; exact .lst (.inl ⟨.inl e, n⟩) r
  | dk l => obtain ⟨xs, e, r⟩ := h; exact .dk e n r
  | dt l => obtain ⟨xs, e, r⟩ := h; exact .dt e n r
  | _ => exact h.elim
theorem SqLA.avF {xs : List V} (hs : ∀ b, Av' b → Av b ∨ H b = none) (h : SqLA K Av H a xs) : SqLA K Av' H a xs := h.elim (fun z => .inl ⟨z.1, fun y => (hs _ y).elim z.2 fun n => by
  rcases z.1 with e | ⟨o, e⟩ <;> (rw [n] at e; cases e)⟩) .inr
theorem SqTA.avF {xs : List V} (hs : ∀ b, Av' b → Av b ∨ H b = none) (h : SqTA K Av H a xs) : SqTA K Av' H a xs := h.elim (fun z => .inl ⟨z.1, fun y => (hs _ y).elim z.2 fun n => by
  rcases z.1 with e | ⟨o, e⟩ <;> (rw [n] at e; cases e)⟩) .inr
mutual
/-- what is nowhere yet is avoided -/
theorem Rep.avF (hs : ∀ b, Av' b → Av b ∨ H b = none) : ∀ {v : V} {d : D}, Rep K Av H v d → Rep K Av' H v d
  | _, _, .non => .non
  | _, _, .bl b => .bl b
  | _, _, .int i => .int i
  | _, _, .str x => .str x
  | _, _, @Rep.raw _ _ _ v => Rep.raw v
  | _, _, .fn h n r => .fn h (fun z => (hs _ z).elim n fun q => by rw [q] at h; cases h) (RepAll.avF hs r)
  | _, _, .exn0 h n => .exn0 h (fun z => (hs _ z).elim n fun q => by rw [q] at h; cases h)
  | _, _, .exn1 h n h2 n2 r => .exn1 h (fun z => (hs _ z).elim n fun q => by rw [q] at h; cases h) h2 (fun z => (hs _ z).elim n2 fun q => by rw [q] at h2; cases h2) (Rep.avF hs r)
  | _, _, .tup h r => .tup (h.avF hs) (RepAll.avF hs r)
  | _, _, .lst h r => .lst (h.avF hs) (RepAll.avF hs r)
  | _, _, .dk h n r => .dk h (fun z => (hs _ z).elim n fun q => by rw [q] at h; cases h) (RepK.avF hs r)
  | _, _, .dt h n r => .dt h (fun z => (hs _ z).elim n fun q => by rw [q] at h; cases h) (RepT.avF hs r)
theorem RepAll.avF (hs : ∀ b, Av' b → Av b ∨ H b = none) : ∀ {v : List V} {d : List D}, RepAll K Av H v d → RepAll K Av' H v d
  | _, _, .nil => .nil
  | _, _, .cons r t => .cons (Rep.avF hs r) (RepAll.avF hs t)
theorem RepK.avF (hs : ∀ b, Av' b → Av b ∨ H b = none) : ∀ {v : List (Key × V)} {d : List (Key × D)}, RepK K Av H v d → RepK K Av' H v d
  | _, _, .nil => .nil
  | _, _, .cons r t => .cons (Rep.avF hs r) (RepK.avF hs t)
theorem RepT.avF (hs : ∀ b, Av' b → Av b ∨ H b = none) : ∀ {v : List (List Key × V)} {d : List (List Key × D)}, RepT K Av H v d → RepT K Av' H v d
  | _, _, .nil => .nil
  | _, _, .cons r t => .cons (Rep.avF hs r) (RepT.avF hs t)
end
theorem OwnRep.avF (hs : ∀ b, Av' b → Av b ∨ H b = none) (h : OwnRep K Av H a d) : OwnRep K Av' H a d := by
  cases d with
  | lst l => obtain ⟨xs, e, r⟩ := h; exact ⟨xs, e, r.avF hs⟩
  | dk l => obtain ⟨xs, e, r⟩ := h; exact ⟨xs, e, r.avF hs⟩
  | dt l => obtain ⟨xs, e, r⟩ := h; exact ⟨xs, e, r.avF hs⟩
  | _ => exact h.elim
end

def SlotRep (K : PySem.W.Frag) (G : GC) (Av : AS) (H : Hp) (ov : Option V) : Sl → Prop
  | .no => True
  | .sh d => ∃ v, ov = some v ∧ Rep K Av H v d
  | .own d => ∃ a, ov = some (.ref a) ∧ OwnRep K Av H a d ∧ G.H0 a = none
  | .lck d => ∃ a, ov = some (.ref a) ∧ OwnRep K Av H a d ∧ G.H0 a = none
  | .dr => ∃ r, G.dr = some r ∧ ov = some (.ref r.d)
/-- a value that waits -/
def PRep (K : PySem.W.Frag) (G : GC) (Av : AS) (H : Hp) (v : V) : Sl → Prop
  | .sh d => Rep K Av H v d
  | .dr => ∃ r, G.dr = some r ∧ v = .ref r.d
  | _ => False
abbrev Pd := List (V × Sl)
abbrev Bs := List (V × D)
structure SRep (K : PySem.W.Frag) (G : GC) (bs : Bs) (σ : St) (e : List Sl) (w : W) (pd : Pd) (x : Option Addr) (H : Hp) : Prop where
  len : e.length = σ.length
  ext : Ch (DrS G.dr) G.H0 H
  dom : ∀ b, G.A b → Solid G.H0 b
  drd : ∀ b, DrS G.dr b → G.H0 b ≠ none
  wr : WRep G.dr w H
  slot : ∀ (i : Nat) sl ov, e[i]? = some sl → σ[i]? = some ov → SlotRep K G (AvA G σ e x) H ov sl
  inj : ∀ (i j : Nat) d d' a, (e[i]? = some (.own d) ∨ e[i]? = some (.lck d)) → (e[j]? = some (.own d') ∨ e[j]? = some (.lck d')) → σ[i]? = some (some (.ref a)) → σ[j]? = some (some (.ref a)) → i = j
  pend : ∀ p ∈ pd, PRep K G (AvP G σ e x) H p.1 p.2
  base : ∀ p ∈ bs, Rep K (AvA G σ e x) H p.1 p.2
  fr : ∀ a, x = some a → G.H0 a = none ∧ ¬ OwnS σ e a ∧ H a ≠ none
/-- a value that has just come; x: its address, where it is new -/
def VRep (K : PySem.W.Frag) (G : GC) (σ : St) (e : List Sl) (x : Option Addr) (H : Hp) (v : V) : Sl → Prop
  | .sh d => x = none ∧ Rep K (AvP G σ e none) H v d
  | .own d => ∃ a, x = some a ∧ v = .ref a ∧ OwnRep K (AvP G σ e (some a)) H a d
  | .dr => x = none ∧ ∃ r, G.dr = some r ∧ v = .ref r.d
  | _ => False
@[simp] def Sl.weak : Sl → Sl
  | .own d => .sh d
  | s => s

section
variable {K : PySem.W.Frag} {G : GC} {bs : Bs} {σ : St} {e : List Sl} {w w' : W} {pd pd' : Pd} {x : Option Addr} {H H' : Hp} {v : V} {r : Sl} {a : Addr} {d : D}
theorem SRep.own_at (R : SRep K G bs σ e w pd x H) (h : OwnS σ e a) : G.H0 a = none ∧ Box H a ∧ ∃ d, OwnRep K (AvA G σ e x) H a d := by
  obtain ⟨i, d, hi, hs⟩ := h
  rcases hi with hi | hi
  · obtain ⟨b, e1, o, n⟩ := R.slot i _ _ hi hs
    cases e1
    exact ⟨n, o.box, d, o⟩
  · obtain ⟨b, e1, o, n⟩ := R.slot i _ _ hi hs
    cases e1
    exact ⟨n, o.box, d, o⟩
theorem SRep.own_nodr (R : SRep K G bs σ e w pd x H) (h : G.H0 a = none) : ¬ DrS G.dr a := fun z => R.drd a z h
theorem SRep.own_noA (R : SRep K G bs σ e w pd x H) (h : G.H0 a = none) : ¬ G.A a := fun z => (R.dom a z).1 h
theorem SRep.drs (R : SRep K G bs σ e w pd x H) (h : DrS G.dr a) : H a ≠ none := by
  obtain ⟨r, hr, q⟩ := h
  obtain ⟨h1, h2, h3, _, h5⟩ := R.wr.2 r hr
  rcases q with q | q | q | ⟨p, hp, q⟩ <;> subst q
  · rw [h1]; simp
  · rw [h2]; simp
  · rw [h3]; simp
  · obtain ⟨ps, h6, _⟩ := h5 p hp
    rw [h6]; simp
theorem SRep.there (R : SRep K G bs σ e w pd x H) (h : AvA G σ e x a) : H a ≠ none := by
  rcases h with h | h | h | h
  · by_cases hd : DrS G.dr a
    · exact R.drs hd
    · have q := (R.dom a h).1
      cases z : G.H0 a with
      | none => exact absurd z q
      | some o => rw [R.ext a o hd z]; simp
  · exact R.drs h
  · exact (R.own_at h).2.1.some
  · exact (R.fr a h).2.2
/-- .. none of these is a thing that never changes -/
theorem SRep.solid (R : SRep K G bs σ e w pd none H) (h : AvP G σ e none a) : Solid H a := by
  refine ⟨R.there h.to, fun φ z => ?_⟩
  have dr : ¬ DrS G.dr a := fun h => by
    obtain ⟨r, hr, q⟩ := h
    obtain ⟨h1, h2, h3, _, h5⟩ := R.wr.2 r hr
    rcases q with q | q | q | ⟨p, hp, q⟩ <;> subst q
    · rw [h1] at z; cases z
    · rw [h2] at z; cases z
    · rw [h3] at z; cases z
    · obtain ⟨ps, h6, _⟩ := h5 p hp
      rw [h6] at z; cases z
  rcases h with h | h | h | h
  · obtain ⟨h1, h2⟩ := R.dom a h
    cases q : G.H0 a with
    | none => exact h1 q
    | some o =>
      have q2 := R.ext a o dr q
      rw [q2] at z
      cases z
      exact h2 _ q
  · exact dr h
  · exact (R.own_at h.to).2.1.solid.2 φ z
  · cases h
theorem SRep.new (R : SRep K G bs σ e w pd x H) (h : H a = none) : ¬ AvA G σ e x a := fun z => R.there z h
theorem SRep.newH0 (R : SRep K G bs σ e w pd x H) (h : H a = none) : G.H0 a = none := by
  cases z : G.H0 a with
  | none => rfl
  | some o =>
    by_cases hd : DrS G.dr a
    · exact absurd h (R.drs hd)
    · rw [R.ext a o hd z] at h; cases h
theorem PRep.imp {Av Av' : AS} (h : ∀ v d, Rep K Av H v d → Rep K Av' H' v d) : ∀ {r : Sl}, PRep K G Av H v r → PRep K G Av' H' v r
  | .sh _, q => h _ _ q
  | .dr, q => q
  | .no, q => q.elim
  | .own _, q => q.elim
  | .lck _, q => q.elim
theorem SlotRep.imp {Av Av' : AS} {ov : Option V} (h : ∀ v d, Rep K Av H v d → Rep K Av' H' v d) (ho : ∀ a d, ov = some (.ref a) → G.H0 a = none → OwnRep K Av H a d → OwnRep K Av' H' a d) : ∀ {r : Sl}, SlotRep K G Av H ov r → SlotRep K G Av' H' ov r
  | .sh _, ⟨v, e, q⟩ => ⟨v, e, h _ _ q⟩
  | .dr, q => q
  | .no, _ => True.intro
  | .own _, ⟨a, e, q, n⟩ => ⟨a, e, ho _ _ e n q, n⟩
  | .lck _, ⟨a, e, q, n⟩ => ⟨a, e, ho _ _ e n q, n⟩
/-- the heap grows, the record of draws may turn -/
theorem SRep.grow (R : SRep K G bs σ e w pd x H) (c : Ch (DrS G.dr) H H') (wr : WRep G.dr w' H') : SRep K G bs σ e w' pd x H' where
  len := R.len
  ext := R.ext.trans c
  dom := R.dom
  drd := R.drd
  wr := wr
  slot := fun i sl ov h1 h2 => (R.slot i sl ov h1 h2).imp (fun _ _ q => q.ch c fun b z => .inr (.inl z)) fun a d _ n q => q.ch c (fun b z => .inr (.inl z)) (R.own_nodr n)
  inj := R.inj
  pend := fun p hp => (R.pend p hp).imp fun _ _ q => q.ch c fun b z => .inr (.inl z)
  base := fun p hp => (R.base p hp).ch c fun b z => .inr (.inl z)
  fr := fun a ha => by
    obtain ⟨h1, h2, h3⟩ := R.fr a ha
    refine ⟨h1, h2, ?_⟩
    cases z : H a with
    | none => exact absurd z h3
    | some o => rw [c a o (R.own_nodr h1) z]; simp
theorem WRep.grow (h : WRep G.dr w H) (c : ∀ b o, H b = some o → H' b = some o) : WRep G.dr w H' := ⟨h.1, fun r hr =>
  let ⟨h1, h2, h3, h4, h5⟩ := h.2 r hr
  ⟨c _ _ h1, c _ _ h2, c _ _ h3, h4, h5.ext c⟩⟩
/-- a new object -/
theorem SRep.alloc {p : Addr} {o : HO} (R : SRep K G bs σ e w pd x H) (h : H p = none) : SRep K G bs σ e w pd x (upd H p o) :=
  R.grow (Ch.new h) (R.wr.grow fun b u q => by rw [upd_ne (ne_of_none q h)]; exact q)
/-- .. that is handed on -/
theorem SRep.allocX {p : Addr} {o : HO} (R : SRep K G bs σ e w pd none H) (h : H p = none) : SRep K G bs σ e w pd (some p) (upd H p o) := by
  have q : ∀ b, AvA G σ e (some p) b → AvA G σ e none b ∨ H b = none := fun b z => by
    rcases z with z | z | z | z
    · exact .inl (.inl z)
    · exact .inl (.inr (.inl z))
    · exact .inl (.inr (.inr (.inl z)))
    · cases z; exact .inr h
  have q' : ∀ b, AvP G σ e (some p) b → AvP G σ e none b ∨ H b = none := fun b z => by
    rcases z with z | z | z | z
    · exact .inl (.inl z)
    · exact .inl (.inr (.inl z))
    · exact .inl (.inr (.inr (.inl z)))
    · cases z; exact .inr h
  have R' : SRep K G bs σ e w pd (some p) (upd H p o) := by
    have c : Ch (DrS G.dr) H (upd H p o) := Ch.new h
    have A := R.alloc (o := o) h
    refine ⟨A.len, A.ext, A.dom, A.drd, A.wr, fun i sl ov h1 h2 => (R.slot i sl ov h1 h2).imp (fun _ _ z => (z.avF q).ch c fun b y => .inr (.inl y)) fun a d _ n z => (z.avF q).ch c (fun b y => .inr (.inl y)) (R.own_nodr n),
      A.inj, fun y hy => (R.pend y hy).imp fun _ _ z => (z.avF q').ch c fun b y => .inr (.inl y), fun y hy => ((R.base y hy).avF q).ch c fun b y => .inr (.inl y), fun a ha => ?_⟩
    cases ha
    exact ⟨R.newH0 h, fun z => R.new h (.inr (.inr (.inl z))), by rw [upd_same]; simp⟩
  exact R'
/-- what was handed on is one more value that waits -/
theorem SRep.drop (R : SRep K G bs σ e w pd x H) : SRep K G bs σ e w pd none H := by
  have q : ∀ b, AvA G σ e none b → AvA G σ e x b := fun b z => by
    rcases z with z | z | z | z
    · exact .inl z
    · exact .inr (.inl z)
    · exact .inr (.inr (.inl z))
    · cases z
  have q' : ∀ b, AvP G σ e none b → AvP G σ e x b := fun b z => by
    rcases z with z | z | z | z
    · exact .inl z
    · exact .inr (.inl z)
    · exact .inr (.inr (.inl z))
    · cases z
  exact ⟨R.len, R.ext, R.dom, R.drd, R.wr, fun i sl ov h1 h2 => (R.slot i sl ov h1 h2).imp (fun _ _ z => z.av q) fun a d _ _ z => z.av q, R.inj, fun y hy => (R.pend y hy).imp fun _ _ z => z.av q', fun y hy => (R.base y hy).av q, fun a ha => by cases ha⟩
theorem VRep.weak (R : SRep K G bs σ e w pd x H) (h : VRep K G σ e x H v r) : VRep K G σ e none H v r.weak := by
  cases r with
  | sh d => exact ⟨rfl, h.2⟩
  | dr => exact ⟨rfl, h.2⟩
  | own d =>
    obtain ⟨a, ex, ev, o⟩ := h
    subst ev
    obtain ⟨h1, h2, h3⟩ := R.fr a ex
    have n : ¬ AvP G σ e none a := by
      rintro (z | z | z | z)
      · exact R.own_noA h1 z
      · exact R.own_nodr h1 z
      · exact h2 z.to
      · cases z
    exact ⟨rfl, (o.av fun b z => by
      rcases z with z | z | z | z
      · exact .inl z
      · exact .inr (.inl z)
      · exact .inr (.inr (.inl z))
      · cases z).rep n⟩
  | no => exact h.elim
  | lck d => exact h.elim
theorem SRep.push (R : SRep K G bs σ e w pd x H) (h : VRep K G σ e x H v r) : SRep K G bs σ e w ((v, r.weak) :: pd) none H := by
  have q := h.weak R
  have D := R.drop
  refine ⟨D.len, D.ext, D.dom, D.drd, D.wr, D.slot, D.inj, fun p hp => ?_, D.base, D.fr⟩
  rcases List.mem_cons.mp hp with rfl | hp
  · cases r with
    | sh d => exact q.2
    | own d => exact q.2
    | dr => exact q.2
    | no => exact h.elim
    | lck d => exact h.elim
  · exact D.pend p hp
theorem SRep.pds (R : SRep K G bs σ e w pd x H) (h : ∀ p ∈ pd', p ∈ pd) : SRep K G bs σ e w pd' x H :=
  ⟨R.len, R.ext, R.dom, R.drd, R.wr, R.slot, R.inj, fun p hp => R.pend p (h p hp), R.base, R.fr⟩
theorem SRep.pop {p : V × Sl} (R : SRep K G bs σ e w (p :: pd) x H) : SRep K G bs σ e w pd x H := R.pds fun _ h => List.mem_cons_of_mem _ h
theorem SRep.top {p : V × Sl} (R : SRep K G bs σ e w (p :: pd) x H) : PRep K G (AvP G σ e x) H p.1 p.2 := R.pend p List.mem_cons_self
theorem SRep.topD (R : SRep K G bs σ e w ((v, .sh d) :: pd) x H) : Rep K (AvP G σ e x) H v d := R.top
/-- the value on top handed on again -/
theorem SRep.take (R : SRep K G bs σ e w ((v, .sh d) :: pd) none H) : SRep K G bs σ e w pd none H ∧ VRep K G σ e none H v (.sh d) := ⟨R.pop, rfl, R.topD⟩
theorem VRep.sc (h : Rep K (AvP G σ e none) H v d) : VRep K G σ e none H v (.sh d) := ⟨rfl, h⟩

/-! ### reading a slot -/
theorem own_lck {i : Nat} (hi : e[i]? = some (.own d)) : OwnS σ (e.set i (.lck d)) a ↔ OwnS σ e a := by
  have lt : i < e.length := (List.getElem?_eq_some_iff.mp hi).1
  constructor
  · rintro ⟨j, d', hj, hs⟩
    by_cases z : j = i
    · subst z
      rw [List.getElem?_set_self lt] at hj
      rcases hj with hj | hj
      · cases hj
      · cases hj; exact ⟨j, d, .inl hi, hs⟩
    · rw [List.getElem?_set_ne (Ne.symm z)] at hj
      exact ⟨j, d', hj, hs⟩
  · rintro ⟨j, d', hj, hs⟩
    by_cases z : j = i
    · subst z
      exact ⟨j, d, .inr (List.getElem?_set_self lt), hs⟩
    · exact ⟨j, d', by rw [List.getElem?_set_ne (Ne.symm z)]; exact hj, hs⟩
theorem own1_lck {i : Nat} (hi : e[i]? = some (.own d)) (h : Own1 σ (e.set i (.lck d)) a) : Own1 σ e a ∧ ¬ σ[i]? = some (some (.ref a)) ∨ (Own1 σ e a ∧ ∃ j d', j ≠ i ∧ e[j]? = some (.own d') ∧ σ[j]? = some (some (.ref a))) := by
  have lt : i < e.length := (List.getElem?_eq_some_iff.mp hi).1
  obtain ⟨j, d', hj, hs⟩ := h
  by_cases z : j = i
  · subst z
    rw [List.getElem?_set_self lt] at hj
    cases hj
  · rw [List.getElem?_set_ne (Ne.symm z)] at hj
    exact .inr ⟨⟨j, d', hj, hs⟩, j, d', z, hj, hs⟩
/-- an owned list is read: it is locked -/
theorem SRep.lock {i : Nat} (R : SRep K G bs σ e w pd none H) (hi : e[i]? = some (.own d)) (hv : σ[i]? = some (some v)) :
    SRep K G bs σ (e.set i (.lck d)) w pd none H ∧ VRep K G σ (e.set i (.lck d)) none H v (.sh d) := by
  have lt : i < e.length := (List.getElem?_eq_some_iff.mp hi).1
  obtain ⟨a, ea, o, n⟩ := R.slot i _ _ hi hv
  cases ea
  have qA : ∀ b, AvA G σ (e.set i (.lck d)) none b → AvA G σ e none b := fun b z => by
    rcases z with z | z | z | z
    · exact .inl z
    · exact .inr (.inl z)
    · exact .inr (.inr (.inl ((own_lck hi).mp z)))
    · cases z
  have qP : ∀ b, AvP G σ (e.set i (.lck d)) none b → AvP G σ e none b := fun b z => by
    rcases z with z | z | z | z
    · exact .inl z
    · exact .inr (.inl z)
    · exact .inr (.inr (.inl ((own1_lck hi z).elim (·.1) (·.1))))
    · cases z
  have nP : ¬ AvP G σ (e.set i (.lck d)) none a := by
    rintro (z | z | z | z)
    · exact R.own_noA n z
    · exact R.own_nodr n z
    · rcases own1_lck hi z with ⟨_, z⟩ | ⟨_, j, d', hj, h1, h2⟩
      · exact z hv
      · exact hj (R.inj j i d' d a (.inl h1) (.inl hi) h2 hv)
    · cases z
  have at_ : ∀ (j : Nat) dj, ((e.set i (.lck d))[j]? = some (.own dj) ∨ (e.set i (.lck d))[j]? = some (.lck dj)) → (∃ dj, e[j]? = some (.own dj) ∨ e[j]? = some (.lck dj)) := fun j dj hj => by
    by_cases z : j = i
    · subst z; exact ⟨d, .inl hi⟩
    · rw [List.getElem?_set_ne (Ne.symm z)] at hj
      exact ⟨dj, hj⟩
  refine ⟨⟨by rw [List.length_set]; exact R.len, R.ext, R.dom, R.drd, R.wr, fun j sl ov h1 h2 => ?_, fun j k dj dk b hj hk h1 h2 => ?_, fun p hp => (R.pend p hp).imp fun _ _ z => z.av qP, fun p hp => (R.base p hp).av qA, fun b hb => by cases hb⟩, rfl, ?_⟩
  · by_cases z : j = i
    · subst z
      rw [List.getElem?_set_self lt] at h1
      cases h1
      rw [hv] at h2
      cases h2
      exact ⟨a, rfl, o.av qA, n⟩
    · rw [List.getElem?_set_ne (Ne.symm z)] at h1
      exact (R.slot j sl ov h1 h2).imp (fun _ _ z => z.av qA) fun _ _ _ _ z => z.av qA
  · obtain ⟨d1, q1⟩ := at_ j dj hj
    obtain ⟨d2, q2⟩ := at_ k dk hk
    exact R.inj j k d1 d2 b q1 q2 h1 h2
  · exact (o.av fun b z => (qP b z).to).rep nP
theorem SRep.getLck {i : Nat} (R : SRep K G bs σ e w pd none H) (hi : e[i]? = some (.lck d)) (hv : σ[i]? = some (some v)) : VRep K G σ e none H v (.sh d) := by
  obtain ⟨a, ea, o, n⟩ := R.slot i _ _ hi hv
  cases ea
  refine ⟨rfl, (o.av fun b z => z.to).rep ?_⟩
  rintro (z | z | z | z)
  · exact R.own_noA n z
  · exact R.own_nodr n z
  · obtain ⟨j, d', hj, hs⟩ := z
    have q := R.inj j i d' d a (.inl hj) (.inr hi) hs hv
    subst q
    rw [hi] at hj
    cases hj
  · cases z
theorem SRep.getSh {i : Nat} (R : SRep K G bs σ e w pd none H) (hi : e[i]? = some (.sh d)) : ∃ v, σ[i]? = some (some v) ∧ VRep K G σ e none H v (.sh d) := by
  have lt : i < σ.length := R.len ▸ (List.getElem?_eq_some_iff.mp hi).1
  obtain ⟨v, ev, r⟩ := R.slot i _ σ[i] hi (List.getElem?_eq_getElem lt)
  exact ⟨v, by rw [List.getElem?_eq_getElem lt, ev], rfl, r.av fun b z => z.to⟩
theorem SRep.getDr {i : Nat} (R : SRep K G bs σ e w pd none H) (hi : e[i]? = some .dr) : ∃ v, σ[i]? = some (some v) ∧ VRep K G σ e none H v .dr := by
  have lt : i < σ.length := R.len ▸ (List.getElem?_eq_some_iff.mp hi).1
  obtain ⟨r, hr, ev⟩ := R.slot i _ σ[i] hi (List.getElem?_eq_getElem lt)
  exact ⟨_, by rw [List.getElem?_eq_getElem lt, ev], rfl, r, hr, rfl⟩
theorem SRep.ownV {i : Nat} (R : SRep K G bs σ e w pd x H) (hi : e[i]? = some (.own d) ∨ e[i]? = some (.lck d)) : ∃ a, σ[i]? = some (some (.ref a)) ∧ OwnRep K (AvA G σ e x) H a d ∧ G.H0 a = none := by
  have lt : i < σ.length := R.len ▸ (by rcases hi with hi | hi <;> exact (List.getElem?_eq_some_iff.mp hi).1)
  rcases hi with hi | hi
  · obtain ⟨a, ea, o, n⟩ := R.slot i _ σ[i] hi (List.getElem?_eq_getElem lt)
    exact ⟨a, by rw [List.getElem?_eq_getElem lt, ea], o, n⟩
  · obtain ⟨a, ea, o, n⟩ := R.slot i _ σ[i] hi (List.getElem?_eq_getElem lt)
    exact ⟨a, by rw [List.getElem?_eq_getElem lt, ea], o, n⟩

/-! ### a statement's end: what was locked is owned again, or shared for good -/
@[simp] def Sl.unl : Sl → Sl
  | .lck d => .own d
  | s => s
@[simp] def Sl.frz : Sl → Sl
  | .lck d => .sh d
  | s => s
mutual
@[simp] def D.plain : D → Bool
  | .lst l => immAll l
  | .dk l => plainK l
  | .dt l => plainT l
  | d => d.imm
def plainK : List (Key × D) → Bool
  | [] => true
  | (_, d) :: r => d.imm && plainK r
def plainT : List (List Key × D) → Bool
  | [] => true
  | (_, d) :: r => d.imm && plainT r
end
/-- does the value hold nothing that could be an owned list? -/
@[simp] def Sl.clear : Sl → Bool
  | .sh d => d.imm
  | .own d => d.plain
  | _ => true
@[simp] def settleB (c : Bool) (e : List Sl) : List Sl := if c = true then e.map Sl.unl else e.map Sl.frz
@[simp] def settle (r : Sl) (e : List Sl) : List Sl := settleB r.clear e
/-- an owned value that holds nothing yet, or no owned one -/
@[simp] def Sl.emp : Sl → Bool
  | .own (.lst []) => true
  | .own (.dk []) => true
  | .own (.dt []) => true
  | .own _ => false
  | _ => true
def NoL (e : List Sl) : Prop := ∀ (i : Nat) d, e[i]? ≠ some (.lck d)
theorem settleB_nol {c : Bool} : NoL (settleB c e) := fun i d h => by
  unfold settleB at h
  split at h
  · rw [List.getElem?_map] at h
    cases q : e[i]? with
    | none => rw [q] at h; cases h
    | some s => rw [q] at h; cases s <;> cases h
  · rw [List.getElem?_map] at h
    cases q : e[i]? with
    | none => rw [q] at h; cases h
    | some s => rw [q] at h; cases s <;> cases h
theorem settle_nol : NoL (settle r e) := settleB_nol
theorem NoL.ownS {b : Addr} (n : NoL e) (h : OwnS σ e b) : Own1 σ e b := by
  obtain ⟨i, d, hi | hi, hs⟩ := h
  · exact ⟨i, d, hi, hs⟩
  · exact absurd hi (n i d)
theorem ownS_unl {b : Addr} : OwnS σ (e.map Sl.unl) b ↔ OwnS σ e b := by
  constructor
  · rintro ⟨i, d, hi, hs⟩
    rw [List.getElem?_map] at hi
    cases q : e[i]? with
    | none => rw [q] at hi; simp at hi
    | some s =>
      rw [q] at hi
      cases s with
      | own d' => exact ⟨i, d', .inl q, hs⟩
      | lck d' => exact ⟨i, d', .inr q, hs⟩
      | _ => simp [Sl.unl] at hi
  · rintro ⟨i, d, hi | hi, hs⟩
    · exact ⟨i, d, .inl (by rw [List.getElem?_map, hi]; rfl), hs⟩
    · exact ⟨i, d, .inl (by rw [List.getElem?_map, hi]; rfl), hs⟩
theorem ownS_frz {b : Addr} (h : OwnS σ (e.map Sl.frz) b) : Own1 σ e b := by
  obtain ⟨i, d, hi, hs⟩ := h
  rw [List.getElem?_map] at hi
  cases q : e[i]? with
  | none => rw [q] at hi; simp at hi
  | some s =>
    rw [q] at hi
    cases s with
    | own d' => exact ⟨i, d', q, hs⟩
    | _ => simp [Sl.frz] at hi
theorem own_of_unl {i : Nat} (h : (e.map Sl.unl)[i]? = some (.own d) ∨ (e.map Sl.unl)[i]? = some (.lck d)) : e[i]? = some (.own d) ∨ e[i]? = some (.lck d) := by
  rw [List.getElem?_map] at h
  cases q : e[i]? with
  | none => rw [q] at h; simp at h
  | some s => rw [q] at h; cases s <;> simp_all [Sl.unl]
theorem own_of_frz {i : Nat} (h : (e.map Sl.frz)[i]? = some (.own d) ∨ (e.map Sl.frz)[i]? = some (.lck d)) : e[i]? = some (.own d) := by
  rw [List.getElem?_map] at h
  cases q : e[i]? with
  | none => rw [q] at h; simp at h
  | some s => rw [q] at h; cases s <;> simp_all [Sl.frz]
theorem RepK.immAv {Av Av' : AS} (hs : ∀ b, Av' b → Av b ∨ Box H b) : ∀ {xs : List (Key × V)} {l : List (Key × D)}, plainK l = true → RepK K Av H xs l → RepK K Av' H xs l
  | _, _, _, .nil => .nil
  | _, _, hp, .cons r t => by
    rw [plainK, Bool.and_eq_true] at hp
    exact .cons (r.immAv hs hp.1) (RepK.immAv hs hp.2 t)
theorem RepT.immAv {Av Av' : AS} (hs : ∀ b, Av' b → Av b ∨ Box H b) : ∀ {xs : List (List Key × V)} {l : List (List Key × D)}, plainT l = true → RepT K Av H xs l → RepT K Av' H xs l
  | _, _, _, .nil => .nil
  | _, _, hp, .cons r t => by
    rw [plainT, Bool.and_eq_true] at hp
    exact .cons (r.immAv hs hp.1) (RepT.immAv hs hp.2 t)
/-- plain items avoid every list and dict of ours -/
theorem OwnRep.immAv {Av Av' : AS} (hs : ∀ b, Av' b → Av b ∨ Box H b) (hp : d.plain = true) (h : OwnRep K Av H a d) : OwnRep K Av' H a d := by
  cases d with
  | lst l => obtain ⟨xs, e, r⟩ := h; exact ⟨xs, e, r.immAv hs (by simpa [D.plain] using hp)⟩
  | dk l => obtain ⟨xs, e, r⟩ := h; exact ⟨xs, e, r.immAv hs (by simpa [D.plain] using hp)⟩
  | dt l => obtain ⟨xs, e, r⟩ := h; exact ⟨xs, e, r.immAv hs (by simpa [D.plain] using hp)⟩
  | _ => exact h.elim
theorem SRep.settleB {c : Bool} (R : SRep K G bs σ e w pd x H) (h : VRep K G σ e x H v r) (hcc : c = true → r.clear = true ∧ ∀ p ∈ pd, p.2.clear = true) : SRep K G bs σ (settleB c e) w pd x H ∧ VRep K G σ (settleB c e) x H v r := by
  unfold DL.settleB
  by_cases hb : c = true
  · rw [if_pos hb]
    obtain ⟨hc, hcp⟩ := hcc hb
    have qA : ∀ b, AvA G σ (e.map Sl.unl) x b → AvA G σ e x b := fun b z => by
      rcases z with z | z | z | z
      · exact .inl z
      · exact .inr (.inl z)
      · exact .inr (.inr (.inl (ownS_unl.mp z)))
      · exact .inr (.inr (.inr z))
    have qP : ∀ {y : Option Addr} b, AvP G σ (e.map Sl.unl) y b → AvP G σ e y b ∨ Box H b := fun b z => by
      rcases z with z | z | z | z
      · exact .inl (.inl z)
      · exact .inl (.inr (.inl z))
      · exact .inr (R.own_at (ownS_unl.mp z.to)).2.1
      · exact .inl (.inr (.inr (.inr z)))
    refine ⟨⟨by rw [List.length_map]; exact R.len, R.ext, R.dom, R.drd, R.wr, fun i sl ov h1 h2 => ?_, fun i j d d' b hi hj => R.inj i j d d' b (own_of_unl hi) (own_of_unl hj), fun p hp => ?_, fun p hp => (R.base p hp).av qA, fun b hb => ?_⟩, ?_⟩
    · rw [List.getElem?_map] at h1
      cases q : e[i]? with
      | none => rw [q] at h1; cases h1
      | some s =>
        rw [q] at h1
        have z := (R.slot i s ov q h2).imp (Av' := AvA G σ (e.map Sl.unl) x) (H' := H) (fun _ _ z => z.av qA) fun _ _ _ _ z => z.av qA
        cases s <;> (cases h1; exact z)
    · have z := R.pend p hp
      have zc := hcp p hp
      cases hp2 : p.2 with
      | sh d2 => rw [hp2] at z zc; exact z.immAv qP zc
      | dr => rw [hp2] at z; exact z
      | no => rw [hp2] at z; exact z.elim
      | own d2 => rw [hp2] at z; exact z.elim
      | lck d2 => rw [hp2] at z; exact z.elim
    · obtain ⟨h1, h2, h3⟩ := R.fr b hb
      exact ⟨h1, fun z => h2 (ownS_unl.mp z), h3⟩
    · cases r with
      | sh d => exact ⟨h.1, h.2.immAv qP hc⟩
      | own d =>
        obtain ⟨a, e1, e2, o⟩ := h
        exact ⟨a, e1, e2, o.immAv qP hc⟩
      | dr => exact h
      | no => exact h.elim
      | lck d => exact h.elim
  · rw [if_neg hb]
    have qA : ∀ b, AvA G σ (e.map Sl.frz) x b → AvP G σ e x b := fun b z => by
      rcases z with z | z | z | z
      · exact .inl z
      · exact .inr (.inl z)
      · exact .inr (.inr (.inl (ownS_frz z)))
      · exact .inr (.inr (.inr z))
    have qA' : ∀ b, AvA G σ (e.map Sl.frz) x b → AvA G σ e x b := fun b z => (qA b z).to
    have qP : ∀ {y : Option Addr} b, AvP G σ (e.map Sl.frz) y b → AvP G σ e y b := fun b z => by
      rcases z with z | z | z | z
      · exact .inl z
      · exact .inr (.inl z)
      · exact .inr (.inr (.inl (ownS_frz z.to)))
      · exact .inr (.inr (.inr z))
    refine ⟨⟨by rw [List.length_map]; exact R.len, R.ext, R.dom, R.drd, R.wr, fun i sl ov h1 h2 => ?_, fun i j d d' b hi hj => R.inj i j d d' b (.inl (own_of_frz hi)) (.inl (own_of_frz hj)), fun p hp => (R.pend p hp).imp fun _ _ z => z.av qP, fun p hp => (R.base p hp).av qA', fun b hb => ?_⟩, ?_⟩
    · rw [List.getElem?_map] at h1
      cases q : e[i]? with
      | none => rw [q] at h1; cases h1
      | some s =>
        rw [q] at h1
        have z := (R.slot i s ov q h2).imp (Av' := AvA G σ (e.map Sl.frz) x) (H' := H) (fun _ _ z => z.av qA') fun _ _ _ _ z => z.av qA'
        cases s with
        | lck d =>
          cases h1
          obtain ⟨a, ea, o, n⟩ := z
          refine ⟨_, ea, o.rep ?_⟩
          intro y
          rcases qA _ y with y | y | ⟨j, d', hj, hs⟩ | y
          · exact R.own_noA n y
          · exact R.own_nodr n y
          · have e1 := R.inj j i d' d a (.inl hj) (.inr q) hs (by rw [h2, ea])
            subst e1
            rw [q] at hj
            cases hj
          · exact (R.fr a y).2.1 ⟨i, d, .inr q, by rw [h2, ea]⟩
        | _ => (cases h1; exact z)
    · obtain ⟨h1, h2, h3⟩ := R.fr b hb
      exact ⟨h1, fun z => h2 (ownS_frz z).to, h3⟩
    · cases r with
      | sh d => exact ⟨h.1, h.2.av qP⟩
      | own d =>
        obtain ⟨a, e1, e2, o⟩ := h
        exact ⟨a, e1, e2, o.av qP⟩
      | dr => exact h
      | no => exact h.elim
      | lck d => exact h.elim
theorem SRep.settle (R : SRep K G bs σ e w pd x H) (h : VRep K G σ e x H v r) : SRep K G bs σ (settle r e) w [] x H ∧ VRep K G σ (settle r e) x H v r :=
  (R.pds (pd' := []) fun _ z => absurd z (by simp)).settleB h fun z => ⟨z, fun p hp => absurd hp (by simp)⟩
/-- a value is stored -/
theorem SRep.store {i : Nat} (R : SRep K G bs σ e w pd x H) (n : NoL e) (h : VRep K G σ e x H v r) (hi : i < e.length) : SRep K G bs (σ.set i (some v)) (e.set i r) w pd none H ∧ NoL (e.set i r) := by
  have hiσ : i < σ.length := R.len ▸ hi
  -- what is owned behind the store
  have ow : ∀ b, OwnS (σ.set i (some v)) (e.set i r) b → Own1 σ e b ∨ (∃ d, r = .own d ∧ v = .ref b) := fun b ⟨j, d, hj, hs⟩ => by
    by_cases z : j = i
    · subst z
      rw [List.getElem?_set_self hi] at hj
      rw [List.getElem?_set_self hiσ] at hs
      rcases hj with hj | hj
      · exact .inr ⟨d, Option.some.inj hj, Option.some.inj (Option.some.inj hs)⟩
      · rw [Option.some.inj hj] at h
        exact h.elim
    · rw [List.getElem?_set_ne (Ne.symm z)] at hj hs
      exact .inl (n.ownS ⟨j, d, hj, hs⟩)
  have vx : ∀ d b, r = .own d → v = .ref b → x = some b := fun d b e1 e2 => by
    subst e1
    obtain ⟨a, e3, e4, _⟩ := h
    rw [e2] at e4
    cases e4
    exact e3
  have qA : ∀ b, AvA G (σ.set i (some v)) (e.set i r) none b → AvP G σ e x b := fun b z => by
    rcases z with z | z | z | z
    · exact .inl z
    · exact .inr (.inl z)
    · rcases ow b z with z | ⟨d, e1, e2⟩
      · exact .inr (.inr (.inl z))
      · exact .inr (.inr (.inr (vx d b e1 e2)))
    · cases z
  have qA' : ∀ b, AvA G (σ.set i (some v)) (e.set i r) none b → AvA G σ e x b := fun b z => (qA b z).to
  have nl : NoL (e.set i r) := fun j d hj => by
    by_cases z : j = i
    · subst z
      rw [List.getElem?_set_self hi] at hj
      cases hj
      exact h.elim
    · rw [List.getElem?_set_ne (Ne.symm z)] at hj
      exact n j d hj
  refine ⟨⟨by rw [List.length_set, List.length_set]; exact R.len, R.ext, R.dom, R.drd, R.wr, fun j sl ov h1 h2 => ?_, fun j k dj dk b hj hk h1 h2 => ?_, fun p hp => (R.pend p hp).imp fun _ _ z => z.av fun b y => qA b y.to, fun p hp => (R.base p hp).av qA', fun b hb => by cases hb⟩, nl⟩
  · by_cases z : j = i
    · subst z
      rw [List.getElem?_set_self hi] at h1
      rw [List.getElem?_set_self hiσ] at h2
      cases h1
      cases h2
      cases r with
      | sh d => exact ⟨v, rfl, h.2.av fun b z => by
          rcases qA b z with q | q | q | q
          · exact .inl q
          · exact .inr (.inl q)
          · exact .inr (.inr (.inl q))
          · rw [h.1] at q; cases q⟩
      | own d =>
        obtain ⟨a, e1, e2, o⟩ := h
        subst e2
        exact ⟨a, rfl, o.av (fun b z => by rw [← e1]; exact qA b z), (R.fr a e1).1⟩
      | dr => obtain ⟨_, q, e1, e2⟩ := h; exact ⟨q, e1, by rw [e2]⟩
      | no => exact True.intro
      | lck d => exact h.elim
    · rw [List.getElem?_set_ne (Ne.symm z)] at h1 h2
      exact (R.slot j sl ov h1 h2).imp (fun _ _ z => z.av qA') fun _ _ _ _ z => z.av qA'
  · have cl : ∀ (m : Nat) dm, ((e.set i r)[m]? = some (.own dm) ∨ (e.set i r)[m]? = some (.lck dm)) → (σ.set i (some v))[m]? = some (some (.ref b)) → (m = i ∧ ∃ d, r = .own d ∧ v = .ref b) ∨ (m ≠ i ∧ (e[m]? = some (.own dm) ∨ e[m]? = some (.lck dm)) ∧ σ[m]? = some (some (.ref b))) := fun m dm hm hs => by
      by_cases z : m = i
      · subst z
        rw [List.getElem?_set_self hi] at hm
        rw [List.getElem?_set_self hiσ] at hs
        rcases hm with hm | hm
        · exact .inl ⟨rfl, dm, Option.some.inj hm, Option.some.inj (Option.some.inj hs)⟩
        · rw [Option.some.inj hm] at h
          exact h.elim
      · rw [List.getElem?_set_ne (Ne.symm z)] at hm hs
        exact .inr ⟨z, hm, hs⟩
    rcases cl j dj hj h1 with ⟨e1, d1, r1, v1⟩ | ⟨e1, o1, s1⟩ <;> rcases cl k dk hk h2 with ⟨e2, d2, r2, v2⟩ | ⟨e2, o2, s2⟩
    · rw [e1, e2]
    · exact absurd ⟨k, dk, o2, s2⟩ (R.fr b (vx d1 b r1 v1)).2.1
    · exact absurd ⟨j, dj, o1, s1⟩ (R.fr b (vx d2 b r2 v2)).2.1
    · exact R.inj j k dj dk b o1 o2 s1 s2
/-- shared data that avoids every owned list is stored -/
theorem SRep.storeA {i : Nat} (R : SRep K G bs σ e w pd none H) (h : Rep K (AvA G σ e none) H v d) (hi : i < e.length) : SRep K G bs (σ.set i (some v)) (e.set i (.sh d)) w pd none H ∧ (NoL e → NoL (e.set i (.sh d))) := by
  have hiσ : i < σ.length := R.len ▸ hi
  have at_ : ∀ (j : Nat) dj, ((e.set i (.sh d))[j]? = some (.own dj) ∨ (e.set i (.sh d))[j]? = some (.lck dj)) → j ≠ i ∧ (e[j]? = some (.own dj) ∨ e[j]? = some (.lck dj)) := fun j dj hj => by
    by_cases z : j = i
    · subst z
      rw [List.getElem?_set_self hi] at hj
      rcases hj with hj | hj <;> cases hj
    · rw [List.getElem?_set_ne (Ne.symm z)] at hj
      exact ⟨z, hj⟩
  have ow : ∀ b, OwnS (σ.set i (some v)) (e.set i (.sh d)) b → OwnS σ e b := fun b ⟨j, dj, hj, hs⟩ => by
    obtain ⟨z, hj⟩ := at_ j dj hj
    rw [List.getElem?_set_ne (Ne.symm z)] at hs
    exact ⟨j, dj, hj, hs⟩
  have o1 : ∀ b, Own1 (σ.set i (some v)) (e.set i (.sh d)) b → Own1 σ e b := fun b ⟨j, dj, hj, hs⟩ => by
    by_cases z : j = i
    · subst z
      rw [List.getElem?_set_self hi] at hj
      cases hj
    · rw [List.getElem?_set_ne (Ne.symm z)] at hj hs
      exact ⟨j, dj, hj, hs⟩
  have qA : ∀ b, AvA G (σ.set i (some v)) (e.set i (.sh d)) none b → AvA G σ e none b := fun b z => by
    rcases z with z | z | z | z
    · exact .inl z
    · exact .inr (.inl z)
    · exact .inr (.inr (.inl (ow b z)))
    · cases z
  have qP : ∀ b, AvP G (σ.set i (some v)) (e.set i (.sh d)) none b → AvP G σ e none b := fun b z => by
    rcases z with z | z | z | z
    · exact .inl z
    · exact .inr (.inl z)
    · exact .inr (.inr (.inl (o1 b z)))
    · cases z
  refine ⟨⟨by rw [List.length_set, List.length_set]; exact R.len, R.ext, R.dom, R.drd, R.wr, fun j sl ov h1 h2 => ?_, fun j k dj dk b hj hk h1 h2 => ?_, fun p hp => (R.pend p hp).imp fun _ _ z => z.av qP, fun p hp => (R.base p hp).av qA, fun b hb => by cases hb⟩, fun n j dj hj => ?_⟩
  · by_cases z : j = i
    · subst z
      rw [List.getElem?_set_self hi] at h1
      rw [List.getElem?_set_self hiσ] at h2
      cases h1
      cases h2
      exact ⟨v, rfl, h.av qA⟩
    · rw [List.getElem?_set_ne (Ne.symm z)] at h1 h2
      exact (R.slot j sl ov h1 h2).imp (fun _ _ z => z.av qA) fun _ _ _ _ z => z.av qA
  · obtain ⟨z1, q1⟩ := at_ j dj hj
    obtain ⟨z2, q2⟩ := at_ k dk hk
    rw [List.getElem?_set_ne (Ne.symm z1)] at h1
    rw [List.getElem?_set_ne (Ne.symm z2)] at h2
    exact R.inj j k dj dk b q1 q2 h1 h2
  · by_cases z : j = i
    · subst z
      rw [List.getElem?_set_self hi] at hj
      cases hj
    · rw [List.getElem?_set_ne (Ne.symm z)] at hj
      exact n j dj hj
/-- a new list is hidden: it stands outside for a while -/
def GC.hide (G : GC) (H : Hp) (a : Addr) : GC := ⟨fun b => G.A b ∨ b = a, fun b => if b = a then H a else G.H0 b, G.dr⟩
theorem hide_av {b : Addr} : AvA (G.hide H a) σ e none b ↔ AvA G σ e (some a) b := by
  constructor
  · rintro ((z | z) | z | z | z)
    · exact .inl z
    · exact .inr (.inr (.inr (by rw [z])))
    · exact .inr (.inl z)
    · exact .inr (.inr (.inl z))
    · cases z
  · rintro (z | z | z | z)
    · exact .inl (.inl z)
    · exact .inr (.inl z)
    · exact .inr (.inr (.inl z))
    · exact .inl (.inr (Option.some.inj z).symm)
theorem hide_avP {b : Addr} : AvP (G.hide H a) σ e none b ↔ AvP G σ e (some a) b := by
  constructor
  · rintro ((z | z) | z | z | z)
    · exact .inl z
    · exact .inr (.inr (.inr (by rw [z])))
    · exact .inr (.inl z)
    · exact .inr (.inr (.inl z))
    · cases z
  · rintro (z | z | z | z)
    · exact .inl (.inl z)
    · exact .inr (.inl z)
    · exact .inr (.inr (.inl z))
    · exact .inl (.inr (Option.some.inj z).symm)
theorem SRep.hide (R : SRep K G bs σ e w pd (some a) H) (hb : Box H a) : SRep K (G.hide H a) bs σ e w pd none H := by
  obtain ⟨f1, f2, f3⟩ := R.fr a rfl
  have na : ¬ DrS G.dr a := R.own_nodr f1
  refine ⟨R.len, fun b o h1 h2 => ?_, fun b hb' => ?_, fun b hb => ?_, R.wr, fun i sl ov h1 h2 => ?_, R.inj, fun p hp => (R.pend p hp).imp fun _ _ z => z.av fun b z => hide_avP.mp z, fun p hp => (R.base p hp).av fun b z => hide_av.mp z, fun b hb => by cases hb⟩
  · by_cases hb : b = a
    · subst hb
      have h2 : (if b = b then H b else G.H0 b) = some o := h2
      rw [if_pos rfl] at h2; exact h2
    · have h2 : (if b = a then H a else G.H0 b) = some o := h2
      rw [if_neg hb] at h2; exact R.ext b o h1 h2
  · show (if b = a then H a else G.H0 b) ≠ none ∧ ∀ φ, (if b = a then H a else G.H0 b) ≠ some (.ext φ)
    by_cases h : b = a
    · rw [if_pos h]; exact hb.solid
    · rw [if_neg h]; exact R.dom b (hb'.resolve_right h)
  · show (if b = a then H a else G.H0 b) ≠ none
    by_cases h : b = a
    · rw [if_pos h]; exact f3
    · rw [if_neg h]; exact R.drd b hb
  · have s := R.slot i sl ov h1 h2
    cases sl with
    | no => exact True.intro
    | dr => exact s
    | sh d => obtain ⟨v, e1, r⟩ := s; exact ⟨v, e1, r.av fun b z => hide_av.mp z⟩
    | own d =>
      obtain ⟨c, e1, o, n⟩ := s
      refine ⟨c, e1, o.av fun b z => hide_av.mp z, ?_⟩
      have h : c ≠ a := fun z => f2 ⟨i, d, .inl h1, by rw [h2, e1, z]⟩
      show (if c = a then H a else G.H0 c) = none
      rw [if_neg h]; exact n
    | lck d =>
      obtain ⟨c, e1, o, n⟩ := s
      refine ⟨c, e1, o.av fun b z => hide_av.mp z, ?_⟩
      have h : c ≠ a := fun z => f2 ⟨i, d, .inr h1, by rw [h2, e1, z]⟩
      show (if c = a then H a else G.H0 c) = none
      rw [if_neg h]; exact n
theorem SRep.unhide {H1 : Hp} (R : SRep K (G.hide H1 a) bs σ e w pd none H) (dom : ∀ b, G.A b → Solid G.H0 b) (drd : ∀ b, DrS G.dr b → G.H0 b ≠ none) (n : G.H0 a = none) (h1 : H1 a ≠ none) : SRep K G bs σ e w pd (some a) H ∧ H a = H1 a := by
  have na : ¬ DrS G.dr a := fun z => drd a z n
  have ha : H a = H1 a := by
    cases q : H1 a with
    | none => exact absurd q h1
    | some o => exact R.ext a o na (by show (if a = a then H1 a else G.H0 a) = some o; rw [if_pos rfl]; exact q)
  have nn : ∀ c, (if c = a then H1 a else G.H0 c) = none → G.H0 c = none ∧ c ≠ a := fun c h => by
    by_cases z : c = a
    · rw [if_pos z] at h; exact absurd h h1
    · rw [if_neg z] at h; exact ⟨h, z⟩
  refine ⟨⟨R.len, fun b o g1 g2 => ?_, dom, drd, R.wr, fun i sl ov g1 g2 => ?_, R.inj, fun p hp => (R.pend p hp).imp fun _ _ z => z.av fun b z => hide_avP.mpr z, fun p hp => (R.base p hp).av fun b z => hide_av.mpr z, fun b hb => ?_⟩, ha⟩
  · have hb : b ≠ a := fun z => by rw [z, n] at g2; cases g2
    exact R.ext b o g1 (by show (if b = a then H1 a else G.H0 b) = some o; rw [if_neg hb]; exact g2)
  · have s := R.slot i sl ov g1 g2
    cases sl with
    | no => exact True.intro
    | dr => exact s
    | sh d => obtain ⟨v, e1, r⟩ := s; exact ⟨v, e1, r.av fun b z => hide_av.mpr z⟩
    | own d =>
      obtain ⟨c, e1, o, n2⟩ := s
      exact ⟨c, e1, o.av (fun b z => hide_av.mpr z), (nn c n2).1⟩
    | lck d =>
      obtain ⟨c, e1, o, n2⟩ := s
      exact ⟨c, e1, o.av (fun b z => hide_av.mpr z), (nn c n2).1⟩
  · cases hb
    refine ⟨n, fun z => ?_, by rw [ha]; exact h1⟩
    exact (nn a (R.own_at z).1).2 rfl
/-- an owned list is changed -/
theorem SRep.mut {i : Nat} {d' : D} {o : HO} (R : SRep K G bs σ e w [] none H) (n : NoL e) (hi : e[i]? = some (.own d)) (ha : σ[i]? = some (some (.ref a))) (hn : G.H0 a = none) (o' : OwnRep K (AvA G σ e none) (upd H a o) a d') :
    SRep K G bs σ (e.set i (.own d')) w [] none (upd H a o) ∧ NoL (e.set i (.own d')) := by
  have lt : i < e.length := (List.getElem?_eq_some_iff.mp hi).1
  have c : Ch (fun b => b = a) H (upd H a o) := fun b u hb q => by rw [upd_ne hb]; exact q
  have ow : OwnS σ e a := ⟨i, d, .inl hi, ha⟩
  have own' : ∀ b, OwnS σ (e.set i (.own d')) b → OwnS σ e b := fun b ⟨j, dj, hj, hs⟩ => by
    by_cases z : j = i
    · subst z; exact ⟨j, d, .inl hi, hs⟩
    · rw [List.getElem?_set_ne (Ne.symm z)] at hj
      exact ⟨j, dj, hj, hs⟩
  have qA : ∀ b, AvA G σ (e.set i (.own d')) none b → AvA G σ e none b := fun b z => by
    rcases z with z | z | z | z
    · exact .inl z
    · exact .inr (.inl z)
    · exact .inr (.inr (.inl (own' b z)))
    · cases z
  have hs : ∀ b, b = a → AvA G σ e none b := fun b e1 => by rw [e1]; exact .inr (.inr (.inl ow))
  have nl : NoL (e.set i (.own d')) := fun j dj hj => by
    by_cases z : j = i
    · subst z
      rw [List.getElem?_set_self lt] at hj
      cases hj
    · rw [List.getElem?_set_ne (Ne.symm z)] at hj
      exact n j dj hj
  have at_ : ∀ (j : Nat) dj, ((e.set i (.own d'))[j]? = some (.own dj) ∨ (e.set i (.own d'))[j]? = some (.lck dj)) → (∃ dj, e[j]? = some (.own dj) ∨ e[j]? = some (.lck dj)) := fun j dj hj => by
    by_cases z : j = i
    · subst z; exact ⟨d, .inl hi⟩
    · rw [List.getElem?_set_ne (Ne.symm z)] at hj
      exact ⟨dj, hj⟩
  have nd := R.own_nodr hn
  refine ⟨⟨by rw [List.length_set]; exact R.len, fun b u h1 h2 => ?_, R.dom, R.drd, ⟨R.wr.1, fun r hr => ?_⟩, fun j sl ov h1 h2 => ?_, fun j k dj dk b hj hk h1 h2 => ?_, fun p hp => absurd hp (by simp), fun p hp => ((R.base p hp).ch c hs).av qA, fun b hb => by cases hb⟩, nl⟩
  · have hb : b ≠ a := fun z => by rw [z, hn] at h2; cases h2
    rw [upd_ne hb]
    exact R.ext b u h1 h2
  · obtain ⟨w1, w2, w3, w4, w5⟩ := R.wr.2 r hr
    have q : ∀ b, (b = r.d ∨ b = r.l ∨ b = r.c ∨ ∃ p ∈ r.T, b = p.1) → b ≠ a := fun b h z => nd ⟨r, hr, z ▸ h⟩
    exact ⟨by rw [upd_ne (q _ (.inl rfl))]; exact w1, by rw [upd_ne (q _ (.inr (.inl rfl)))]; exact w2, by rw [upd_ne (q _ (.inr (.inr (.inl rfl))))]; exact w3, w4, tabs_mut w5 (R.own_at ow).2.1⟩
  · by_cases z : j = i
    · subst z
      rw [List.getElem?_set_self lt] at h1
      rw [ha] at h2
      cases h1
      cases h2
      exact ⟨a, rfl, o'.av qA, hn⟩
    · rw [List.getElem?_set_ne (Ne.symm z)] at h1
      have s := R.slot j sl ov h1 h2
      cases sl with
      | no => exact True.intro
      | dr => exact s
      | sh d2 => obtain ⟨v2, e2, r2⟩ := s; exact ⟨v2, e2, (r2.ch c hs).av qA⟩
      | own d2 =>
        obtain ⟨b, e2, r2, n2⟩ := s
        have hb : b ≠ a := fun y => z (R.inj j i d2 d a (.inl h1) (.inl hi) (by rw [h2, e2, y]) ha)
        exact ⟨b, e2, (r2.ch c hs hb).av qA, n2⟩
      | lck d2 => exact absurd h1 (n j d2)
  · obtain ⟨d1, q1⟩ := at_ j dj hj
    obtain ⟨d2, q2⟩ := at_ k dk hk
    exact R.inj j k d1 d2 b q1 q2 h1 h2
end
end DL

end

section -- DL3
set_option Elab.async false
set_option linter.all false
set_option maxRecDepth 100000
set_option maxHeartbeats 2000000
/-! DL3: expressions as functions of the state. -/
namespace DL
open PySem PySem.Spec L2

theorem _root_.L2.PE.imp {X : Cx} {e : Expr} {t t' : TE} (h : PE X e t) (f : ∀ σ H Q, t' σ H Q → t σ H Q) : PE X e t' := ⟨fun pins s σ H Q I q => h.run pins s σ H Q I (f _ _ _ q)⟩
theorem _root_.L2.PT.imp {X : Cx} {e : Expr} {t t' : TT} (h : PT X e t) (f : ∀ σ H Q, t' σ H Q → t σ H Q) : PT X e t' := ⟨fun pins s σ H Q I q => h.run pins s σ H Q I (f _ _ _ q)⟩
theorem _root_.L2.PW.imp {X : Cx} {e : Expr} {t t' : TT} (h : PW X e t) (f : ∀ σ H Q, t' σ H Q → t σ H Q) : PW X e t' := ⟨fun wh pins s σ H Q I q => h.run wh pins s σ H Q I (f _ _ _ q)⟩
theorem _root_.L2.PA.imp {X : Cx} {e : List Expr} {t t' : TA} (h : PA X e t) (f : ∀ σ H Q, t' σ H Q → t σ H Q) : PA X e t' := ⟨fun pos pins s σ H Q I q => h.run pos pins s σ H Q I (f _ _ _ q)⟩
theorem _root_.L2.PS.imp {X : Cx} {e : Stmt} {t t' : TS} (h : PS X e t) (f : ∀ D σ H, t' D σ H → t D σ H) : PS X e t' := ⟨fun pins s σ H D I q => h.run pins s σ H D I (f _ _ _ q)⟩
theorem _root_.L2.PSs.imp {X : Cx} {e : List Stmt} {t t' : TS} (h : PSs X e t) (f : ∀ D σ H, t' D σ H → t D σ H) : PSs X e t' := ⟨fun pins s σ H D I q => h.run pins s σ H D I (f _ _ _ q)⟩
theorem _root_.L2.PG.imp {X : Cx} {e : Expr} {t t' : TG} (h : PG X e t) (f : ∀ v σ H Q, t' v σ H Q → t v σ H Q) : PG X e t' := ⟨fun pins s σ H v u Q I r q => h.run pins s σ H v u Q I r (f _ _ _ _ q)⟩
theorem _root_.L2.PI.imp {X : Cx} {tg e : Expr} {t t' : TI} (h : PI X tg e t) (f : ∀ σ H R, t' σ H R → t σ H R) : PI X tg e t' := ⟨fun pins s σ H R I q => h.run pins s σ H R I (f _ _ _ q)⟩

/-! ### ends -/
def AvE (G : GC) : AS := fun b => G.A b ∨ DrS G.dr b
def XRep (K : PySem.W.Frag) (Av : AS) (x : Ex) (cls : Value) (dd : Option Addr) (H : Hp) : Prop := cls = .ref x.cls ∧ match x.f with
  | none => dd = none
  | some (n, d) => ∃ a v, dd = some a ∧ H a = some (.xd [(n, v)]) ∧ ¬ Av a ∧ Rep K Av H v d
def XEnd (K : PySem.W.Frag) (G : GC) (x : Ex) (w : W) (cls : Value) (dd : Option Addr) (H : Hp) : Prop := Ch (DrS G.dr) G.H0 H ∧ WRep G.dr w H ∧ XRep K (AvE G) x cls dd H
section
variable (K : PySem.W.Frag) (G : GC) (bs : Bs) (E : XK) (σ : St) (pd : Pd)
def LQ (Q : VK) : Option RE → Prop
  | some (.val r s) => ∀ v x H', SRep K G bs σ s.e s.w pd x H' → VRep K G σ s.e x H' v r → Q v H'
  | some (.exc ex w) => ∀ cls dd H', XEnd K G ex w cls dd H' → E cls dd H'
  | none => False
def LT (Q : Bool → Hp → Prop) : Option RT → Prop
  | some (.tv b s) => ∀ H', SRep K G bs σ s.e s.w pd none H' → Q b H'
  | some (.exc ex w) => ∀ cls dd H', XEnd K G ex w cls dd H' → E cls dd H'
  | none => False
end
/-- arguments' end -/
inductive RA where
  | vals (rs : List Sl) (s : S)
  | exc (x : Ex) (w : W)
abbrev TAf := S → Option RA
def LA (K : PySem.W.Frag) (G : GC) (bs : Bs) (E : XK) (σ : St) (pd : Pd) (Q : List V → Hp → Prop) : Option RA → Prop
  | some (.vals rs s) => ∀ vs H', vs.length = rs.length → SRep K G bs σ s.e s.w (vs.zip rs ++ pd) none H' → Q vs H'
  | some (.exc ex w) => ∀ cls dd H', XEnd K G ex w cls dd H' → E cls dd H'
  | none => False
def lift (K : PySem.W.Frag) (G : GC) (bs : Bs) (E : XK) (t : TEf) : TE := fun σ H Q => ∃ e w pd, SRep K G bs σ e w pd none H ∧ LQ K G bs E σ pd Q (t ⟨w, e⟩)
def liftT (K : PySem.W.Frag) (G : GC) (bs : Bs) (E : XK) (t : TTf) : TT := fun σ H Q => ∃ e w pd, SRep K G bs σ e w pd none H ∧ LT K G bs E σ pd Q (t ⟨w, e⟩)
def liftA (K : PySem.W.Frag) (G : GC) (bs : Bs) (E : XK) (t : TAf) : TA := fun σ H Q => ∃ e w pd, SRep K G bs σ e w pd none H ∧ LA K G bs E σ pd Q (t ⟨w, e⟩)
structure DE (X : Cx) (E : XK) (e : Expr) (t : TEf) : Prop where
  run : ∀ G bs, PE X e (lift X.K G bs E t)
structure DT (X : Cx) (E : XK) (e : Expr) (t : TTf) : Prop where
  run : ∀ G bs, PT X e (liftT X.K G bs E t)
structure DW (X : Cx) (E : XK) (e : Expr) (t : TTf) : Prop where
  run : ∀ G bs, PW X e (liftT X.K G bs E t)
structure DA (X : Cx) (E : XK) (e : List Expr) (t : TAf) : Prop where
  run : ∀ G bs, PA X e (liftA X.K G bs E t)
theorem DW.dt {X : Cx} {E : XK} {e : Expr} {t : TTf} (h : DW X E e t) : DT X E e t := ⟨fun G bs => (h.run G bs).pt⟩

def eB (r : Option RE) (k : Sl → S → Option RE) : Option RE := match r with
  | some (.val v s) => k v s
  | some (.exc x w) => some (.exc x w)
  | none => none
@[simp] theorem eB_val (v : Sl) (s : S) (k : Sl → S → Option RE) : eB (some (.val v s)) k = k v s := rfl
@[simp] theorem eB_exc (x : Ex) (w : W) (k : Sl → S → Option RE) : eB (some (.exc x w)) k = some (.exc x w) := rfl
@[simp] theorem eB_none (k : Sl → S → Option RE) : eB none k = none := rfl
def eT (r : Option RE) (k : Sl → S → Option RT) : Option RT := match r with
  | some (.val v s) => k v s
  | some (.exc x w) => some (.exc x w)
  | none => none
@[simp] theorem eT_val (v : Sl) (s : S) (k : Sl → S → Option RT) : eT (some (.val v s)) k = k v s := rfl
@[simp] theorem eT_exc (x : Ex) (w : W) (k : Sl → S → Option RT) : eT (some (.exc x w)) k = some (.exc x w) := rfl
@[simp] theorem eT_none (k : Sl → S → Option RT) : eT none k = none := rfl
def tE (r : Option RT) (k : Bool → S → Option RE) : Option RE := match r with
  | some (.tv v s) => k v s
  | some (.exc x w) => some (.exc x w)
  | none => none
@[simp] theorem tE_val (v : Bool) (s : S) (k : Bool → S → Option RE) : tE (some (.tv v s)) k = k v s := rfl
@[simp] theorem tE_exc (x : Ex) (w : W) (k : Bool → S → Option RE) : tE (some (.exc x w)) k = some (.exc x w) := rfl
@[simp] theorem tE_none (k : Bool → S → Option RE) : tE none k = none := rfl
def tT (r : Option RT) (k : Bool → S → Option RT) : Option RT := match r with
  | some (.tv v s) => k v s
  | some (.exc x w) => some (.exc x w)
  | none => none
@[simp] theorem tT_val (v : Bool) (s : S) (k : Bool → S → Option RT) : tT (some (.tv v s)) k = k v s := rfl
@[simp] theorem tT_exc (x : Ex) (w : W) (k : Bool → S → Option RT) : tT (some (.exc x w)) k = some (.exc x w) := rfl
@[simp] theorem tT_none (k : Bool → S → Option RT) : tT none k = none := rfl
def eA (r : Option RE) (k : Sl → S → Option RA) : Option RA := match r with
  | some (.val v s) => k v s
  | some (.exc x w) => some (.exc x w)
  | none => none
@[simp] theorem eA_val (v : Sl) (s : S) (k : Sl → S → Option RA) : eA (some (.val v s)) k = k v s := rfl
@[simp] theorem eA_exc (x : Ex) (w : W) (k : Sl → S → Option RA) : eA (some (.exc x w)) k = some (.exc x w) := rfl
@[simp] theorem eA_none (k : Sl → S → Option RA) : eA none k = none := rfl
def aA (r : Option RA) (k : List Sl → S → Option RA) : Option RA := match r with
  | some (.vals v s) => k v s
  | some (.exc x w) => some (.exc x w)
  | none => none
@[simp] theorem aA_val (v : List Sl) (s : S) (k : List Sl → S → Option RA) : aA (some (.vals v s)) k = k v s := rfl
@[simp] theorem aA_exc (x : Ex) (w : W) (k : List Sl → S → Option RA) : aA (some (.exc x w)) k = some (.exc x w) := rfl
@[simp] theorem aA_none (k : List Sl → S → Option RA) : aA none k = none := rfl
def aE (r : Option RA) (k : List Sl → S → Option RE) : Option RE := match r with
  | some (.vals v s) => k v s
  | some (.exc x w) => some (.exc x w)
  | none => none
@[simp] theorem aE_val (v : List Sl) (s : S) (k : List Sl → S → Option RE) : aE (some (.vals v s)) k = k v s := rfl
@[simp] theorem aE_exc (x : Ex) (w : W) (k : List Sl → S → Option RE) : aE (some (.exc x w)) k = some (.exc x w) := rfl
@[simp] theorem aE_none (k : List Sl → S → Option RE) : aE none k = none := rfl

section
variable {K : PySem.W.Frag} {G : GC} {bs : Bs} {E : XK} {σ : St} {e : List Sl} {w : W} {pd pd' : Pd} {H : Hp}
/-- a part e runs first: pd' waits meanwhile -/
theorem LQ.first {Q : VK} {o : Option RE} {k : Sl → S → Option RE} {Q' : VK} (h : LQ K G bs E σ pd Q (eB o k))
    (hk : ∀ r s, LQ K G bs E σ pd Q (k r s) → ∀ v x H', SRep K G bs σ s.e s.w pd' x H' → VRep K G σ s.e x H' v r → Q' v H') : LQ K G bs E σ pd' Q' o := by
  match o with
  | some (.val r s) => exact hk r s h
  | some (.exc _ _) => exact h
  | none => exact h.elim
theorem LT.first {Q : Bool → Hp → Prop} {o : Option RE} {k : Sl → S → Option RT} {Q' : VK} (h : LT K G bs E σ pd Q (eT o k))
    (hk : ∀ r s, LT K G bs E σ pd Q (k r s) → ∀ v x H', SRep K G bs σ s.e s.w pd' x H' → VRep K G σ s.e x H' v r → Q' v H') : LQ K G bs E σ pd' Q' o := by
  match o with
  | some (.val r s) => exact hk r s h
  | some (.exc _ _) => exact h
  | none => exact h.elim
theorem LT.firstT {Q : Bool → Hp → Prop} {o : Option RT} {k : Bool → S → Option RT} {Q' : Bool → Hp → Prop} (h : LT K G bs E σ pd Q (tT o k))
    (hk : ∀ r s, LT K G bs E σ pd Q (k r s) → ∀ H', SRep K G bs σ s.e s.w pd' none H' → Q' r H') : LT K G bs E σ pd' Q' o := by
  match o with
  | some (.tv r s) => exact hk r s h
  | some (.exc _ _) => exact h
  | none => exact h.elim
theorem LQ.firstT {Q : VK} {o : Option RT} {k : Bool → S → Option RE} {Q' : Bool → Hp → Prop} (h : LQ K G bs E σ pd Q (tE o k))
    (hk : ∀ r s, LQ K G bs E σ pd Q (k r s) → ∀ H', SRep K G bs σ s.e s.w pd' none H' → Q' r H') : LT K G bs E σ pd' Q' o := by
  match o with
  | some (.tv r s) => exact hk r s h
  | some (.exc _ _) => exact h
  | none => exact h.elim
theorem LA.first {Q : List V → Hp → Prop} {o : Option RE} {k : Sl → S → Option RA} {Q' : VK} (h : LA K G bs E σ pd Q (eA o k))
    (hk : ∀ r s, LA K G bs E σ pd Q (k r s) → ∀ v x H', SRep K G bs σ s.e s.w pd' x H' → VRep K G σ s.e x H' v r → Q' v H') : LQ K G bs E σ pd' Q' o := by
  match o with
  | some (.val r s) => exact hk r s h
  | some (.exc _ _) => exact h
  | none => exact h.elim
theorem LA.firstA {Q : List V → Hp → Prop} {o : Option RA} {k : List Sl → S → Option RA} {Q' : List V → Hp → Prop} (h : LA K G bs E σ pd Q (aA o k))
    (hk : ∀ r s, LA K G bs E σ pd Q (k r s) → ∀ v H', v.length = r.length → SRep K G bs σ s.e s.w (v.zip r ++ pd') none H' → Q' v H') : LA K G bs E σ pd' Q' o := by
  match o with
  | some (.vals r s) => exact hk r s h
  | some (.exc _ _) => exact h
  | none => exact h.elim
theorem LQ.firstA {Q : VK} {o : Option RA} {k : List Sl → S → Option RE} {Q' : List V → Hp → Prop} (h : LQ K G bs E σ pd Q (aE o k))
    (hk : ∀ r s, LQ K G bs E σ pd Q (k r s) → ∀ v H', v.length = r.length → SRep K G bs σ s.e s.w (v.zip r ++ pd') none H' → Q' v H') : LA K G bs E σ pd' Q' o := by
  match o with
  | some (.vals r s) => exact hk r s h
  | some (.exc _ _) => exact h
  | none => exact h.elim
/-- a value comes that nothing else is needed for -/
def Gives (K : PySem.W.Frag) (G : GC) (bs : Bs) (σ : St) (e : List Sl) (w : W) (pd : Pd) (R : Sl) (Q : VK) : Prop := ∀ v x H', SRep K G bs σ e w pd x H' → VRep K G σ e x H' v R → Q v H'
theorem Gives.int {i : Int} {Q : VK} (g : Gives K G bs σ e w pd (.sh (.int i)) Q) (R : SRep K G bs σ e w pd none H) : Q (.int i) H := g _ _ _ R ⟨rfl, .int i⟩
theorem Gives.str {i : Str} {Q : VK} (g : Gives K G bs σ e w pd (.sh (.str i)) Q) (R : SRep K G bs σ e w pd none H) : Q (.str i) H := g _ _ _ R ⟨rfl, .str i⟩
theorem Gives.bl {i : Bool} {Q : VK} (g : Gives K G bs σ e w pd (.sh (.bl i)) Q) (R : SRep K G bs σ e w pd none H) : Q (.bl i) H := g _ _ _ R ⟨rfl, .bl i⟩
theorem Gives.non {Q : VK} (g : Gives K G bs σ e w pd (.sh .non) Q) (R : SRep K G bs σ e w pd none H) : Q .non H := g _ _ _ R ⟨rfl, .non⟩
theorem Gives.rep {d : D} {v : V} {Q : VK} (g : Gives K G bs σ e w pd (.sh d) Q) (R : SRep K G bs σ e w pd none H) (r : Rep K (AvP G σ e none) H v d) : Q v H := g _ _ _ R ⟨rfl, r⟩
/-- a new tuple -/
theorem Gives.tup {vs : List V} {ds : List D} {Q : VK} {p : Addr} (g : Gives K G bs σ e w pd (.sh (.tup ds)) Q) (R : SRep K G bs σ e w pd none H) (r : RepAll K (AvP G σ e none) H vs ds) (n : H p = none) : Q (.ref p) (upd H p (.tup vs)) := by
  refine g _ _ _ (R.alloc n) ⟨rfl, .tup (.inl ⟨.inl upd_same, fun z => R.new n z.to⟩) (r.ch (Ch.new n) fun b z => z)⟩
/-- a new list -/
theorem Gives.lst {vs : List V} {ds : List D} {Q : VK} {p : Addr} (g : Gives K G bs σ e w pd (.own (.lst ds)) Q) (R : SRep K G bs σ e w pd none H) (r : RepAll K (AvP G σ e none) H vs ds) (n : H p = none) : Q (.ref p) (upd H p (.lst vs)) := by
  have q' : ∀ b, AvP G σ e (some p) b → AvP G σ e none b ∨ H b = none := fun b z => by
    rcases z with z | z | z | z
    · exact .inl (.inl z)
    · exact .inl (.inr (.inl z))
    · exact .inl (.inr (.inr (.inl z)))
    · cases z; exact .inr n
  exact g _ _ _ (R.allocX n) ⟨p, rfl, rfl, vs, upd_same, (r.avF q').ch (Ch.new n) fun b z => z⟩
end

/-! ### names, constants -/
@[simp] def dVar (i : Nat) : TEf := fun s => match s.e[i]? with
  | some (.sh d) => some (.val (.sh d) s)
  | some (.own d) => some (.val (.sh d) ⟨s.w, s.e.set i (.lck d)⟩)
  | some (.lck d) => some (.val (.sh d) s)
  | some .dr => some (.val .dr s)
  | _ => none
@[simp] def dC (d : D) : TEf := fun s => some (.val (.sh d) s)
section
variable {X : Cx} {G : GC} {E : XK}
theorem de_var (i : Nat) {x : Str} {pos : Pos} (hN : X.N[i]? = some x := by rfl) (hv : Vis X.env.scope x := by first | exact Or.inl rfl | exact Or.inr (Or.inl rfl) | exact Or.inr (Or.inr rfl)) (hd : (x == ("__debug__" : Str)) = false := by decide)
    (hcd : (x == ("__classdict__" : Str)) = false := by decide) : DE X E (.Name x pos) (dVar i) := ⟨fun G bs => by
  refine (pe_var hN hv hd hcd).imp fun σ H Q ⟨e, w, pd, R, h⟩ => ?_
  unfold dVar at h
  show ∃ v, σ[i]? = some (some v) ∧ Q v H
  cases q : e[i]? with
  | none => simp only [q] at h; exact h.elim
  | some s =>
    simp only [q] at h
    cases s with
    | no => exact h.elim
    | sh d =>
      obtain ⟨v, e1, r⟩ := R.getSh q
      exact ⟨v, e1, h v none H R r⟩
    | own d =>
      obtain ⟨a, e1, _⟩ := R.ownV (.inl q)
      obtain ⟨R', r⟩ := R.lock q e1
      exact ⟨_, e1, h _ none H R' r⟩
    | lck d =>
      obtain ⟨a, e1, _⟩ := R.ownV (.inr q)
      exact ⟨_, e1, h _ none H R (R.getLck q e1)⟩
    | dr =>
      obtain ⟨v, e1, r⟩ := R.getDr q
      exact ⟨v, e1, h v none H R r⟩⟩
theorem DE.ofC {e : Expr} {v : V} {d : D} (h : PE X e (tC v)) (r : ∀ Av H, Rep X.K Av H v d) : DE X E e (dC d) := ⟨fun G bs => by
  refine h.imp fun σ H Q ⟨e, w, pd, R, q⟩ => ?_
  exact q v none H R ⟨rfl, r _ _⟩⟩
theorem de_int {i j pos} : DE X E (.Constant (.int i) j pos) (dC (.int i)) := .ofC pe_int fun _ _ => .int i
theorem de_bl {b j pos} : DE X E (.Constant (.bool b) j pos) (dC (.bl b)) := .ofC pe_bl fun _ _ => .bl b
theorem de_non {j pos} : DE X E (.Constant .none j pos) (dC .non) := .ofC pe_non fun _ _ => .non
theorem de_str {x j pos} : DE X E (.Constant (.str x) j pos) (dC (.str x)) := .ofC pe_str fun _ _ => .str x
/-- a module's constant -/
theorem de_glob {x : Str} {v : V} {u : Value} {d : D} {pos : Pos} (hg : Gl X x) (hm : X.mg x = some u) (r : RelV v u) (k : ∀ Av H, Rep X.K Av H v d) (hd : (x == ("__debug__" : Str)) = false := by decide) : DE X E (.Name x pos) (dC d) := .ofC (pe_glob hg hm r hd) k

/-! ### two operands -/
def Sl.dat : Sl → Option D
  | .sh d => some d
  | .own d => some d
  | _ => none
@[simp] theorem dat_sh (d : D) : (Sl.sh d).dat = some d := rfl
@[simp] theorem dat_own (d : D) : (Sl.own d).dat = some d := rfl
theorem weak_of_dat {r : Sl} {d : D} (h : r.dat = some d) : r.weak = .sh d := by cases r <;> simp_all [Sl.dat, Sl.weak]
abbrev G2 := D → D → Option Sl
@[simp] def app2 (g : G2) (x y : Sl) (s : S) : Option RE := match x.dat, y.dat with
  | some a, some b => (g a b).map fun r => .val r s
  | _, _ => none
@[simp] theorem app2_sh (g : G2) (x y : Sl) (a b : D) (s : S) (h1 : x.dat = some a) (h2 : y.dat = some b) : app2 g x y s = (g a b).map fun r => .val r s := by
  unfold app2; rw [h1, h2]
@[simp] def dOp (g : G2) (ta tb : TEf) : TEf := fun s => eB (ta s) fun x s => eB (tb s) fun y s => app2 g x y s
def OpOk (X : Cx) (r : R2) (g : G2) : Prop := ∀ {G : GC} {bs : Bs} {σ : St} {e : List Sl} {w : W} {pd : Pd} {H : Hp} {v1 v2 : V} {d1 d2 : D} {R : Sl} {Q : VK},
  SRep X.K G bs σ e w ((v2, .sh d2) :: (v1, .sh d1) :: pd) none H → g d1 d2 = some R → Gives X.K G bs σ e w pd R Q → r v1 v2 H Q
theorem lift_op {bs : Bs} {r : R2} {g : G2} {ta tb : TEf} (hg : OpOk X r g) {σ : St} {H : Hp} {Q : VK} (h : lift X.K G bs E (dOp g ta tb) σ H Q) : tOp r (lift X.K G bs E ta) (lift X.K G bs E tb) σ H Q := by
  obtain ⟨e, w, pd, R, h⟩ := h
  refine ⟨e, w, pd, R, h.first fun x s h v1 x1 H1 R1 r1 => ⟨s.e, s.w, _, R1.push r1, h.first fun y s' h v2 x2 H2 R2 r2 => ?_⟩⟩
  have R3 := R2.push r2
  cases dx : x.dat with
  | none => simp only [app2, dx] at h; exact h.elim
  | some a =>
    cases dy : y.dat with
    | none => simp only [app2, dx, dy] at h; exact h.elim
    | some b =>
      simp only [app2, dx, dy] at h
      rw [weak_of_dat dx, weak_of_dat dy] at R3
      cases q : g a b with
      | none => rw [q] at h; exact h.elim
      | some rr => rw [q] at h; exact hg R3 q h
theorem de_op {op : Operator} {r : R2} {g : G2} {a b : Expr} {ta tb : TEf} {pos : Pos} (ho : OpR X (binaryOp op) r) (hg : OpOk X r g) (ha : DE X E a ta) (hb : DE X E b tb) : DE X E (.BinOp a op b pos) (dOp g ta tb) :=
  ⟨fun G bs => (pe_op ho (ha.run G bs) (hb.run G bs)).imp fun _ _ _ h => lift_op hg h⟩
theorem de_cmp {op : CmpOp} {r : R2} {g : G2} {a b : Expr} {ta tb : TEf} {pos : Pos} (ho : OpR X (compareOp op) r) (hg : OpOk X r g) (ha : DE X E a ta) (hb : DE X E b tb) (hm : behindInMarks op b = false) : DE X E (.Compare a [op] [b] pos) (dOp g ta tb) :=
  ⟨fun G bs => (pe_cmpR ho (ha.run G bs) (hb.run G bs) hm).imp fun _ _ _ h => lift_op hg h⟩
/-- a value as a test -/
@[simp] def tBl (x : Sl) (s : S) : Option RT := match x with
  | .sh (.bl b) => some (.tv b s)
  | _ => none
@[simp] def dTest (t : TEf) : TTf := fun s => eT (t s) tBl
theorem LT.test {K : PySem.W.Frag} {bs : Bs} {σ : St} {pd : Pd} {Q : Bool → Hp → Prop} {o : Option RE} (h : LT K G bs E σ pd Q (eT o tBl)) : LQ K G bs E σ pd (fun x H' => ∃ k, x = .bl k ∧ Q k H') o := by
  refine h.first fun r s h v x H' R q => ?_
  cases r with
  | sh d =>
    cases d with
    | bl b =>
      obtain ⟨e1, q⟩ := q
      subst e1
      exact ⟨b, q.bl_inv, h H' R⟩
    | _ => exact h.elim
  | _ => exact h.elim
theorem dt_cmp {op : CmpOp} {r : R2} {g : G2} {a b : Expr} {ta tb : TEf} {pos : Pos} (ho : OpR X (compareOp op) r) (hg : OpOk X r g) (ha : DE X E a ta) (hb : DE X E b tb) (hm : behindInMarks op b = false) : DT X E (.Compare a [op] [b] pos) (dTest (dOp g ta tb)) :=
  ⟨fun G bs => (pt_cmpR ho (ha.run G bs) (hb.run G bs) hm).imp fun σ H Q ⟨e, w, pd, R, h⟩ => lift_op (Q := fun x H' => ∃ k, x = .bl k ∧ Q k H') hg ⟨e, w, pd, R, LT.test h⟩⟩
theorem dt_val {e : Expr} {t : TEf} (h : DE X E e t) (he : ∀ whole, isTrue e X.env whole = (do let v ← whole; standAt e.pos; holding [v] (truthy v)) := by intro _; rfl) : DT X E e (dTest t) :=
  ⟨fun G bs => (pt_val (h.run G bs) he).imp fun σ H Q ⟨e, w, pd, R, h⟩ => ⟨e, w, pd, R, LT.test h⟩⟩

/-! ### and, or, not, if -/
@[simp] def dAnd (t u : TTf) : TTf := fun s => tT (t s) fun b s => if b = true then u s else some (.tv false s)
@[simp] def dOr (t u : TTf) : TTf := fun s => tT (t s) fun b s => if b = true then some (.tv true s) else u s
@[simp] def dNot (t : TTf) : TTf := fun s => tT (t s) fun b s => some (.tv (!b) s)
@[simp] def dIf (t : TTf) (a b : TEf) : TEf := fun s => tE (t s) fun k s => if k = true then a s else b s
theorem dw_and1 {a : Expr} {t : TTf} {pos : Pos} (h : DT X E a t) : DW X E (.BoolOp .And [a] pos) t := ⟨fun G bs => pw_and1 (h.run G bs)⟩
theorem dw_or1 {a : Expr} {t : TTf} {pos : Pos} (h : DT X E a t) : DW X E (.BoolOp .Or [a] pos) t := ⟨fun G bs => pw_or1 (h.run G bs)⟩
theorem dw_and {a b : Expr} {rest : List Expr} {t u : TTf} {pos : Pos} (h : DT X E a t) (h2 : DW X E (.BoolOp .And (b :: rest) pos) u) : DW X E (.BoolOp .And (a :: b :: rest) pos) (dAnd t u) :=
  ⟨fun G bs => (pw_and (h.run G bs) (h2.run G bs)).imp fun σ H Q ⟨e, w, pd, R, q⟩ => ⟨e, w, pd, R, q.firstT fun k s q H' R' => by
    cases k with
    | true => rw [if_pos rfl] at q ⊢; exact ⟨_, _, _, R', q⟩
    | false => rw [if_neg (by decide)] at q ⊢; exact q _ R'⟩⟩
theorem dw_or {a b : Expr} {rest : List Expr} {t u : TTf} {pos : Pos} (h : DT X E a t) (h2 : DW X E (.BoolOp .Or (b :: rest) pos) u) : DW X E (.BoolOp .Or (a :: b :: rest) pos) (dOr t u) :=
  ⟨fun G bs => (pw_or (h.run G bs) (h2.run G bs)).imp fun σ H Q ⟨e, w, pd, R, q⟩ => ⟨e, w, pd, R, q.firstT fun k s q H' R' => by
    cases k with
    | true => rw [if_pos rfl] at q ⊢; exact q _ R'
    | false => rw [if_neg (by decide)] at q ⊢; exact ⟨_, _, _, R', q⟩⟩⟩
theorem dt_not {a : Expr} {t : TTf} {pos : Pos} (h : DT X E a t) : DT X E (.UnaryOp .Not a pos) (dNot t) :=
  ⟨fun G bs => (pt_not (h.run G bs)).imp fun σ H Q ⟨e, w, pd, R, q⟩ => ⟨e, w, pd, R, q.firstT fun k s q H' R' => q _ R'⟩⟩
theorem de_if {c a b : Expr} {t : TTf} {ta tb : TEf} {pos : Pos} (h : DT X E c t) (ha : DE X E a ta) (hb : DE X E b tb) : DE X E (.IfExp c a b pos) (dIf t ta tb) :=
  ⟨fun G bs => (pe_ifExp (h.run G bs) (ha.run G bs) (hb.run G bs)).imp fun σ H Q ⟨e, w, pd, R, q⟩ => ⟨e, w, pd, R, q.firstT fun k s q H' R' => by
    cases k with
    | true => rw [if_pos rfl] at q ⊢; exact ⟨_, _, _, R', q⟩
    | false => rw [if_neg (by decide)] at q ⊢; exact ⟨_, _, _, R', q⟩⟩⟩
/-- as values: bools -/
@[simp] def dAndV (t u : TEf) : TEf := fun s => tE (dTest t s) fun b s => if b = true then u s else some (.val (.sh (.bl false)) s)
@[simp] def dOrV (t u : TEf) : TEf := fun s => tE (dTest t s) fun b s => if b = true then some (.val (.sh (.bl true)) s) else u s
@[simp] def dNotV (t : TEf) : TEf := fun s => tE (dTest t s) fun b s => some (.val (.sh (.bl (!b))) s)
theorem LQ.testV {K : PySem.W.Frag} {bs : Bs} {σ : St} {pd : Pd} {Q : VK} {o : Option RE} {k : Bool → S → Option RE} {Q' : Bool → Hp → Prop} (h : LQ K G bs E σ pd Q (tE (eT o tBl) k))
    (hk : ∀ r s, LQ K G bs E σ pd Q (k r s) → ∀ H', SRep K G bs σ s.e s.w pd none H' → Q' r H') : LQ K G bs E σ pd (fun x H' => ∃ c, x = .bl c ∧ Q' c H') o := LT.test (h.firstT hk)
theorem de_one {op} {a : Expr} {t : TEf} {pos : Pos} (h : DE X E a t) : DE X E (.BoolOp op [a] pos) t := ⟨fun G bs => pe_one (h.run G bs)⟩
theorem de_and {a b : Expr} {rest : List Expr} {t u : TEf} {pos : Pos} (h : DE X E a t) (h2 : DE X E (.BoolOp .And (b :: rest) pos) u) : DE X E (.BoolOp .And (a :: b :: rest) pos) (dAndV t u) :=
  ⟨fun G bs => (pe_and (h.run G bs) (h2.run G bs)).imp fun σ H Q ⟨e, w, pd, R, q⟩ => ⟨e, w, pd, R, LQ.testV q fun k s q H' R' => by
    cases k with
    | true => rw [if_pos rfl] at q ⊢; exact ⟨_, _, _, R', q⟩
    | false => rw [if_neg (by decide)] at q ⊢; exact q _ _ _ R' ⟨rfl, .bl _⟩⟩⟩
theorem de_or {a b : Expr} {rest : List Expr} {t u : TEf} {pos : Pos} (h : DE X E a t) (h2 : DE X E (.BoolOp .Or (b :: rest) pos) u) : DE X E (.BoolOp .Or (a :: b :: rest) pos) (dOrV t u) :=
  ⟨fun G bs => (pe_or (h.run G bs) (h2.run G bs)).imp fun σ H Q ⟨e, w, pd, R, q⟩ => ⟨e, w, pd, R, LQ.testV q fun k s q H' R' => by
    cases k with
    | true => rw [if_pos rfl] at q ⊢; exact q _ _ _ R' ⟨rfl, .bl _⟩
    | false => rw [if_neg (by decide)] at q ⊢; exact ⟨_, _, _, R', q⟩⟩⟩
theorem de_not {a : Expr} {t : TEf} {pos : Pos} (h : DE X E a t) : DE X E (.UnaryOp .Not a pos) (dNotV t) :=
  ⟨fun G bs => (pe_not (h.run G bs)).imp fun σ H Q ⟨e, w, pd, R, q⟩ => ⟨e, w, pd, R, LQ.testV q fun k s q H' R' => q _ _ _ R' ⟨rfl, .bl _⟩⟩⟩

/-! ### arguments, displays -/
@[simp] def dNil : TAf := fun s => some (.vals [] s)
@[simp] def dCons (t : TEf) (u : TAf) : TAf := fun s => eA (t s) fun x s => aA (u s) fun xs s => some (.vals (x.weak :: xs) s)
theorem da_nil : DA X E [] dNil := ⟨fun G bs => pa_nil.imp fun σ H Q ⟨e, w, pd, R, q⟩ => q [] H rfl R⟩
theorem da_cons {e : Expr} {es : List Expr} {t : TEf} {u : TAf} (h : DE X E e t) (h2 : DA X E es u) (hs : starEach (e :: es) X.env = (false, eval e X.env) :: starEach es X.env := by rfl) : DA X E (e :: es) (dCons t u) :=
  ⟨fun G bs => (pa_cons (h.run G bs) (h2.run G bs) hs).imp fun σ H Q ⟨e, w, pd, R, q⟩ => ⟨e, w, pd, R, q.first fun x s q v x1 H1 R1 r1 => ⟨_, _, _, R1.push r1, q.firstA fun xs s' q vs H2 hl R2 => by
    refine q _ _ (by simp [hl]) (R2.pds fun p hp => ?_)
    rw [List.zip_cons_cons, List.cons_append] at hp
    rcases List.mem_cons.mp hp with e1 | hp
    · rw [e1]; exact List.mem_append_right _ List.mem_cons_self
    · rcases List.mem_append.mp hp with hp | hp
      · exact List.mem_append_left _ hp
      · exact List.mem_append_right _ (List.mem_cons_of_mem _ hp)⟩⟩⟩
def datAll : List Sl → Option (List D)
  | [] => some []
  | x :: r => match x.dat, datAll r with
    | some d, some ds => some (d :: ds)
    | _, _ => none
@[simp] theorem datAll_nil : datAll [] = some [] := rfl
@[simp] theorem datAll_cons (d : D) (r : List Sl) : datAll (.sh d :: r) = (datAll r).map (d :: ·) := by
  conv => lhs; unfold datAll
  rw [dat_sh]
  cases datAll r <;> rfl
theorem SRep.all {K : PySem.W.Frag} {bs : Bs} {σ : St} {e : List Sl} {w : W} {pd : Pd} {x : Option Addr} {H : Hp} : ∀ {rs : List Sl} {vs : List V} {ds : List D}, SRep K G bs σ e w (vs.zip rs ++ pd) x H → vs.length = rs.length → datAll rs = some ds → RepAll K (AvP G σ e x) H vs ds
  | [], [], ds, _, _, h => by cases h; exact .nil
  | r :: rs, v :: vs, ds, R, hl, h => by
    unfold datAll at h
    cases q : r.dat with
    | none => rw [q] at h; simp at h
    | some d =>
      cases q2 : datAll rs with
      | none => rw [q, q2] at h; simp at h
      | some dr =>
        rw [q, q2] at h
        cases h
        have hp := R.pend (v, r) (by simp)
        cases r with
        | sh d' => cases q; exact .cons hp (SRep.all (R.pds fun p hp => List.mem_cons_of_mem _ hp) (by simpa using hl) q2)
        | own d' => exact hp.elim
        | _ => cases q
  | [], _ :: _, _, _, hl, _ => by simp at hl
  | _ :: _, [], _, _, hl, _ => by simp at hl
theorem SRep.rest {K : PySem.W.Frag} {bs : Bs} {σ : St} {e : List Sl} {w : W} {pd pd' : Pd} {x : Option Addr} {H : Hp} (R : SRep K G bs σ e w (pd' ++ pd) x H) : SRep K G bs σ e w pd x H := R.pds fun _ h => List.mem_append_right _ h
@[simp] def dTup (u : TAf) : TEf := fun s => aE (u s) fun xs s => match datAll xs with
  | some ds => if ds.length ≤ 16777216 then some (.val (.sh (.tup ds)) s) else none
  | none => none
@[simp] def dLst (u : TAf) : TEf := fun s => aE (u s) fun xs s => match datAll xs with
  | some ds => if ds.length ≤ 16777216 then some (.val (.own (.lst ds)) s) else none
  | none => none
theorem size16 {n : Nat} : n ≤ 16777216 ↔ n ≤ sizeLine := by rw [sizeLine_eq]
theorem de_tup {es : List Expr} {u : TAf} {x1} {pos : Pos} (h : DA X E es u) : DE X E (.Tuple es x1 pos) (dTup u) :=
  ⟨fun G bs => (pe_tup (h.run G bs)).imp fun σ H Q ⟨e, w, pd, R, q⟩ => ⟨e, w, pd, R, q.firstA fun xs s q vs H2 hl R2 => by
    cases qd : datAll xs with
    | none => simp only [qd] at q; exact q.elim
    | some ds =>
      simp only [qd] at q
      have r := R2.all hl qd
      by_cases hz : ds.length ≤ 16777216
      · rw [if_pos hz] at q
        exact ⟨by rw [r.length]; exact size16.mp hz, fun p hp => Gives.tup q R2.rest r hp⟩
      · rw [if_neg hz] at q; exact q.elim⟩⟩
theorem de_lst {es : List Expr} {u : TAf} {pos : Pos} (h : DA X E es u) : DE X E (.List es pos) (dLst u) :=
  ⟨fun G bs => (pe_lst (h.run G bs)).imp fun σ H Q ⟨e, w, pd, R, q⟩ => ⟨e, w, pd, R, q.firstA fun xs s q vs H2 hl R2 => by
    cases qd : datAll xs with
    | none => simp only [qd] at q; exact q.elim
    | some ds =>
      simp only [qd] at q
      have r := R2.all hl qd
      by_cases hz : ds.length ≤ 16777216
      · rw [if_pos hz] at q
        exact ⟨by rw [r.length]; exact size16.mp hz, fun p hp => Gives.lst q R2.rest r hp⟩
      · rw [if_neg hz] at q; exact q.elim⟩⟩

/-! ### built-in functions, types, methods by values -/
abbrev GL := List D → Option Sl
@[simp] def appL (g : GL) (xs : List Sl) (s : S) : Option RE := match datAll xs with
  | some ds => (g ds).map fun r => .val r s
  | none => none
@[simp] def dCB (g : GL) (u : TAf) : TEf := fun s => aE (u s) fun xs s => appL g xs s
def CallOk (X : Cx) (r : List V → Hp → VK → Prop) (g : GL) : Prop := ∀ {G : GC} {bs : Bs} {σ : St} {e : List Sl} {w : W} {pd : Pd} {H : Hp} {vs : List V} {ds : List D} {R : Sl} {Q : VK},
  SRep X.K G bs σ e w pd none H → RepAll X.K (AvP G σ e none) H vs ds → g ds = some R → Gives X.K G bs σ e w pd R Q → r vs H Q
theorem lift_cb {bs : Bs} {r : List V → Hp → VK → Prop} {g : GL} {u : TAf} (hg : CallOk X r g) {σ : St} {H : Hp} {Q : VK} (h : lift X.K G bs E (dCB g u) σ H Q) : tCB r (liftA X.K G bs E u) σ H Q := by
  obtain ⟨e, w, pd, R, h⟩ := h
  refine ⟨e, w, pd, R, h.firstA fun xs s h vs H1 hl R1 => ?_⟩
  cases qd : datAll xs with
  | none => simp only [appL, qd] at h; exact h.elim
  | some ds =>
    simp only [appL, qd] at h
    cases q : g ds with
    | none => rw [q] at h; exact h.elim
    | some rr => rw [q] at h; exact hg R1.rest (R1.all hl qd) q h
theorem de_callB {id : String} {r : List V → Hp → VK → Prop} {g : GL} {x : Str} {e : Expr} {es : List Expr} {u : TAf} {p pos : Pos} (hc : CallR X (.builtin id) r) (hk : CallOk X r g) (hg : Gl X x) (hm : X.mg x = none) (hv : bootBuiltins x = some (.builtin id)) (ha : DA X E (e :: es) u)
    (hn : x ≠ "__name__" := by decide) (hdb : (x == ("__debug__" : Str)) = false := by decide)
    (he : starEach (e :: es) X.env = (false, eval e X.env) :: starEach es X.env := by rfl) (hpl : (backTo pos (starEach es X.env)).any (·.1) = false := by rfl) : DE X E (.Call (.Name x p) (e :: es) [] pos) (dCB g u) :=
  ⟨fun G bs => (pe_callB hc hg hm hv (ha.run G bs) hn hdb he hpl).imp fun _ _ _ h => lift_cb hk h⟩
theorem de_callTy {T : String} {r : List V → Hp → VK → Prop} {g : GL} {x : Str} {e : Expr} {es : List Expr} {u : TAf} {p pos : Pos} (hc : CallR X (.type T) r) (hk : CallOk X r g) (hg : Gl X x) (hm : X.mg x = none) (hv : bootBuiltins x = some (.type T)) (ha : DA X E (e :: es) u)
    (hn : x ≠ "__name__" := by decide) (hdb : (x == ("__debug__" : Str)) = false := by decide)
    (he : starEach (e :: es) X.env = (false, eval e X.env) :: starEach es X.env := by rfl) (hpl : (backTo pos (starEach es X.env)).any (·.1) = false := by rfl) : DE X E (.Call (.Name x p) (e :: es) [] pos) (dCB g u) :=
  ⟨fun G bs => (pe_callTy hc hg hm hv (ha.run G bs) hn hdb he hpl).imp fun _ _ _ h => lift_cb hk h⟩
/-- o.m(es): the object, then the arguments -/
@[simp] def dBM (ty : D → Bool) (g : GL) (t : TEf) (u : TAf) : TEf := fun s => eB (t s) fun x s => match x.dat with
  | some d => if ty d then aE (u s) fun xs s => appL g (.sh d :: xs) s else none
  | none => none
def MetOk (X : Cx) (r : V → List V → Hp → VK → Prop) (g : GL) : Prop := ∀ {G : GC} {bs : Bs} {σ : St} {e : List Sl} {w : W} {pd : Pd} {H : Hp} {v : V} {vs : List V} {d : D} {ds : List D} {R : Sl} {Q : VK},
  SRep X.K G bs σ e w pd none H → Rep X.K (AvP G σ e none) H v d → RepAll X.K (AvP G σ e none) H vs ds → g (d :: ds) = some R → Gives X.K G bs σ e w pd R Q → r v vs H Q
def TyOk (K : PySem.W.Frag) (T : String) (ty : D → Bool) : Prop := ∀ Av H v d, ty d = true → Rep K Av H v d → tyV K T v H
theorem lift_bm {bs : Bs} {T : String} {r : V → List V → Hp → VK → Prop} {ty : D → Bool} {g : GL} {t : TEf} {u : TAf} (hk : MetOk X r g) (hT : TyOk X.K T ty) {σ : St} {H : Hp} {Q : VK} (h : lift X.K G bs E (dBM ty g t u) σ H Q) :
    tBM X.K T r (lift X.K G bs E t) (liftA X.K G bs E u) σ H Q := by
  obtain ⟨e, w, pd, R, h⟩ := h
  refine ⟨e, w, pd, R, h.first fun x s h v x1 H1 R1 r1 => ?_⟩
  have R2 := R1.push r1
  cases dx : x.dat with
  | none => simp only [dx] at h; exact h.elim
  | some d =>
    simp only [dx] at h
    rw [weak_of_dat dx] at R2
    by_cases ht : ty d = true
    · rw [if_pos ht] at h
      refine ⟨hT _ _ _ _ ht R2.topD, _, _, _, R2, h.firstA fun xs s' h vs H3 hl R3 => ?_⟩
      cases qd : datAll xs with
      | none => simp only [appL, datAll_cons, qd] at h; exact h.elim
      | some ds =>
        simp only [appL, datAll_cons, qd, Option.map_some] at h
        cases q : g (d :: ds) with
        | none => rw [q] at h; exact h.elim
        | some rr => rw [q] at h; exact hk R3.rest.pop R3.rest.topD (R3.all hl qd) q h
    · rw [if_neg ht] at h; exact h.elim
@[simp] def dBM0 (ty : D → Bool) (g : GL) (t : TEf) : TEf := fun s => eB (t s) fun x s => match x.dat with
  | some d => if ty d then appL g [.sh d] s else none
  | none => none
theorem lift_bm0 {bs : Bs} {T : String} {r : V → List V → Hp → VK → Prop} {ty : D → Bool} {g : GL} {t : TEf} (hk : MetOk X r g) (hT : TyOk X.K T ty) {σ : St} {H : Hp} {Q : VK} (h : lift X.K G bs E (dBM0 ty g t) σ H Q) :
    tBM0 X.K T r (lift X.K G bs E t) σ H Q := by
  obtain ⟨e, w, pd, R, h⟩ := h
  refine ⟨e, w, pd, R, h.first fun x s h v x1 H1 R1 r1 => ?_⟩
  have R2 := R1.push r1
  cases dx : x.dat with
  | none => simp only [dx] at h; exact h.elim
  | some d =>
    simp only [dx] at h
    rw [weak_of_dat dx] at R2
    by_cases ht : ty d = true
    · rw [if_pos ht] at h
      simp only [appL, datAll_cons, datAll_nil, Option.map_some] at h
      cases q : g [d] with
      | none => rw [q] at h; exact h.elim
      | some rr => rw [q] at h; exact ⟨hT _ _ _ _ ht R2.topD, hk R2.pop R2.topD .nil q h⟩
    · rw [if_neg ht] at h; exact h.elim
theorem de_bm {T id : String} {name : Str} {r : V → List V → Hp → VK → Prop} {ty : D → Bool} {g : GL} {o e : Expr} {es : List Expr} {t : TEf} {u : TAf} {apos cpos : Pos} (pa : PlainAttrs T) (slot : Slot T name id) (hty : typeOf (.builtin id) = pure (.type "method_descriptor")) (hm : MtR X id r) (hk : MetOk X r g)
    (hT : TyOk X.K T ty) (ho : DE X E o t) (ha : DA X E (e :: es) u)
    (hbase : attributeBase o name X.env (eval o X.env) = eval o X.env := by rfl)
    (hfew : ((backTo cpos (starEach (e :: es) X.env)).all (fun x => !x.1) && (backToKw cpos (keywordEach [] X.env)).all (fun x => x.1.isSome)
      && decide ((e :: es).length + ([] : List Keyword).length + (if ([] : List Keyword).isEmpty then 0 else 1) < 30)) = true := by rfl)
    (hline : (apos.endLine == cpos.line) = true := by rfl) (hs : starEach (e :: es) X.env = (false, eval e X.env) :: starEach es X.env := by rfl) (hplain : (backTo cpos (starEach es X.env)).any (·.1) = false := by rfl) :
    DE X E (.Call (.Attribute o name apos) (e :: es) [] cpos) (dBM ty g t u) := ⟨fun G bs => (pe_bm pa slot hty hm (ho.run G bs) (ha.run G bs) hbase hfew hline hs hplain).imp fun σ H Q h => lift_bm hk hT h⟩
theorem de_bm0 {T id : String} {name : Str} {r : V → List V → Hp → VK → Prop} {ty : D → Bool} {g : GL} {o : Expr} {t : TEf} {apos cpos : Pos} (pa : PlainAttrs T) (slot : Slot T name id) (hty : typeOf (.builtin id) = pure (.type "method_descriptor")) (hm : MtR X id r) (hk : MetOk X r g)
    (hT : TyOk X.K T ty) (ho : DE X E o t) (hbase : attributeBase o name X.env (eval o X.env) = eval o X.env := by rfl) (hline : (apos.endLine == cpos.line) = true := by rfl) : DE X E (.Call (.Attribute o name apos) [] [] cpos) (dBM0 ty g t) :=
  ⟨fun G bs => (pe_bm0 pa slot hty hm (ho.run G bs) hbase hline).imp fun σ H Q h => lift_bm0 hk hT h⟩
end
end DL

end

section -- DL4
set_option Elab.async false
set_option linter.all false
set_option maxRecDepth 100000
set_option maxHeartbeats 2000000
/-! DL4: statements as functions of the state. -/
namespace DL
open PySem PySem.Spec L2

section
variable (K : PySem.W.Frag) (G : GC) (bs : Bs) (E : XK)
/-- a state at a statement's edge -/
def SR0 (σ : St) (s : S) (H : Hp) : Prop := SRep K G bs σ s.e s.w [] none H ∧ NoL s.e
def LS (D : Ends) : Option Fl → Prop
  | some (.nx s) => ∀ σ' H', SR0 K G bs σ' s H' → D.nx σ' H'
  | some (.rt r s) => ∀ σ' v x H', SRep K G bs σ' s.e s.w [] x H' → VRep K G σ' s.e x H' v r → D.rt v H'
  | some (.bk s) => ∀ σ' H', SR0 K G bs σ' s H' → D.bk σ' H'
  | some (.ct s) => ∀ σ' H', SR0 K G bs σ' s H' → D.ct σ' H'
  | some (.exc ex w) => ∀ cls dd H', XEnd K G ex w cls dd H' → E cls dd H'
  | none => False
def liftS (t : TSf) : TS := fun D σ H => ∃ s, SR0 K G bs σ s H ∧ LS K G bs E D (t s)
end
structure DS (X : Cx) (E : XK) (st : Stmt) (t : TSf) : Prop where
  run : ∀ G bs, PS X st (liftS X.K G bs E t)
structure DSs (X : Cx) (E : XK) (st : List Stmt) (t : TSf) : Prop where
  run : ∀ G bs, PSs X st (liftS X.K G bs E t)
def sB (r : Option Fl) (k : S → Option Fl) : Option Fl := match r with
  | some (.nx s) => k s
  | x => x
@[simp] theorem sB_nx (s : S) (k : S → Option Fl) : sB (some (.nx s)) k = k s := rfl
@[simp] theorem sB_rt (r : Sl) (s : S) (k : S → Option Fl) : sB (some (.rt r s)) k = some (.rt r s) := rfl
@[simp] theorem sB_bk (s : S) (k : S → Option Fl) : sB (some (.bk s)) k = some (.bk s) := rfl
@[simp] theorem sB_ct (s : S) (k : S → Option Fl) : sB (some (.ct s)) k = some (.ct s) := rfl
@[simp] theorem sB_exc (x : Ex) (w : W) (k : S → Option Fl) : sB (some (.exc x w)) k = some (.exc x w) := rfl
@[simp] theorem sB_none (k : S → Option Fl) : sB none k = none := rfl
def eS (r : Option RE) (k : Sl → S → Option Fl) : Option Fl := match r with
  | some (.val v s) => k v s
  | some (.exc x w) => some (.exc x w)
  | none => none
@[simp] theorem eS_val (v : Sl) (s : S) (k : Sl → S → Option Fl) : eS (some (.val v s)) k = k v s := rfl
@[simp] theorem eS_exc (x : Ex) (w : W) (k : Sl → S → Option Fl) : eS (some (.exc x w)) k = some (.exc x w) := rfl
@[simp] theorem eS_none (k : Sl → S → Option Fl) : eS none k = none := rfl
def tS (r : Option RT) (k : Bool → S → Option Fl) : Option Fl := match r with
  | some (.tv v s) => k v s
  | some (.exc x w) => some (.exc x w)
  | none => none
@[simp] theorem tS_val (v : Bool) (s : S) (k : Bool → S → Option Fl) : tS (some (.tv v s)) k = k v s := rfl
@[simp] theorem tS_exc (x : Ex) (w : W) (k : Bool → S → Option Fl) : tS (some (.exc x w)) k = some (.exc x w) := rfl
@[simp] theorem tS_none (k : Bool → S → Option Fl) : tS none k = none := rfl
def aS (r : Option RA) (k : List Sl → S → Option Fl) : Option Fl := match r with
  | some (.vals v s) => k v s
  | some (.exc x w) => some (.exc x w)
  | none => none
@[simp] theorem aS_val (v : List Sl) (s : S) (k : List Sl → S → Option Fl) : aS (some (.vals v s)) k = k v s := rfl
@[simp] theorem aS_exc (x : Ex) (w : W) (k : List Sl → S → Option Fl) : aS (some (.exc x w)) k = some (.exc x w) := rfl
@[simp] theorem aS_none (k : List Sl → S → Option Fl) : aS none k = none := rfl
/-- the state with another row of slots -/
abbrev S.wth (s : S) (e : List Sl) : S := ⟨s.w, e⟩

section
variable {K : PySem.W.Frag} {G : GC} {bs : Bs} {E : XK} {σ : St} {pd : Pd} {H : Hp}
theorem LQ.mono {Q Q' : VK} {o : Option RE} (h : LQ K G bs E σ pd Q o) (f : ∀ v H', Q v H' → Q' v H') : LQ K G bs E σ pd Q' o := by
  match o with
  | some (.val r s) => exact fun v x H' R q => f _ _ (h v x H' R q)
  | some (.exc _ _) => exact h
  | none => exact h.elim
theorem LS.first {D : Ends} {o : Option RE} {k : Sl → S → Option Fl} {Q' : VK} (h : LS K G bs E D (eS o k))
    (hk : ∀ r s, LS K G bs E D (k r s) → ∀ v x H', SRep K G bs σ s.e s.w [] x H' → VRep K G σ s.e x H' v r → Q' v H') : LQ K G bs E σ [] Q' o := by
  match o with
  | some (.val r s) => exact hk r s h
  | some (.exc _ _) => exact h
  | none => exact h.elim
theorem LS.firstT {D : Ends} {o : Option RT} {k : Bool → S → Option Fl} {Q' : Bool → Hp → Prop} (h : LS K G bs E D (tS o k))
    (hk : ∀ r s, LS K G bs E D (k r s) → ∀ H', SRep K G bs σ s.e s.w [] none H' → Q' r H') : LT K G bs E σ [] Q' o := by
  match o with
  | some (.tv r s) => exact hk r s h
  | some (.exc _ _) => exact h
  | none => exact h.elim
theorem LS.firstA {D : Ends} {o : Option RA} {k : List Sl → S → Option Fl} {Q' : List V → Hp → Prop} (h : LS K G bs E D (aS o k))
    (hk : ∀ r s, LS K G bs E D (k r s) → ∀ v H', v.length = r.length → SRep K G bs σ s.e s.w (v.zip r ++ []) none H' → Q' v H') : LA K G bs E σ [] Q' o := by
  match o with
  | some (.vals r s) => exact hk r s h
  | some (.exc _ _) => exact h
  | none => exact h.elim
end
/-- no value: what was locked is owned again -/
@[simp] def calmE (e : List Sl) : List Sl := settle .dr e
theorem settle_one {e : List Sl} {d : D} (h : (Sl.sh d).clear = true) : settle (.sh d) e = calmE e := by
  unfold calmE settle
  rw [h]
  rfl
section
variable {X : Cx} {G : GC} {E : XK}
/-- behind a test -/
theorem SRep.calm {K : PySem.W.Frag} {bs : Bs} {σ : St} {e : List Sl} {w : W} {pd : Pd} {H : Hp} (R : SRep K G bs σ e w pd none H) : SR0 K G bs σ ⟨w, calmE e⟩ H := by
  have h : VRep K G σ e none H .non (.sh .non) := ⟨rfl, .non⟩
  have q := (R.settle h).1
  rw [settle_one (d := .non) rfl] at q
  exact ⟨q, by have := settle_nol (r := .dr) (e := e); exact this⟩

@[simp] def dSeq (t u : TSf) : TSf := fun s => sB (t s) u
@[simp] def dNext : TSf := fun s => some (.nx s)
theorem dss_nil : DSs X E [] dNext := ⟨fun G bs => pss_nil.imp fun D σ H ⟨s, R, q⟩ => q σ H R⟩
theorem dss_cons {st : Stmt} {rest : List Stmt} {t u : TSf} (h : DS X E st t) (h2 : DSs X E rest u) : DSs X E (st :: rest) (dSeq t u) :=
  ⟨fun G bs => (pss_cons (h.run G bs) (h2.run G bs)).imp fun D σ H ⟨s, R, q⟩ => ⟨s, R, by
    unfold dSeq at q
    match ts : t s with
    | some (.nx s') => rw [ts] at q; exact fun σ' H' R' => ⟨s', R', q⟩
    | some (.rt r s') => rw [ts] at q; exact q
    | some (.bk s') => rw [ts] at q; exact q
    | some (.ct s') => rw [ts] at q; exact q
    | some (.exc x w) => rw [ts] at q; exact q
    | none => rw [ts] at q; exact q.elim⟩⟩
theorem dss_one {st : Stmt} {t : TSf} (h : DS X E st t) : DSs X E [st] t := ⟨fun G bs => pss_one (h.run G bs)⟩
theorem ds_pass {pos : Pos} : DS X E (.Pass pos) dNext := ⟨fun G bs => ps_pass.imp fun D σ H ⟨s, R, q⟩ => q σ H R⟩
@[simp] def dBreak : TSf := fun s => some (.bk s)
@[simp] def dCont : TSf := fun s => some (.ct s)
theorem ds_break {pos : Pos} : DS X E (.Break pos) dBreak := ⟨fun G bs => ps_break.imp fun D σ H ⟨s, R, q⟩ => q σ H R⟩
theorem ds_continue {pos : Pos} : DS X E (.Continue pos) dCont := ⟨fun G bs => ps_continue.imp fun D σ H ⟨s, R, q⟩ => q σ H R⟩
theorem ds_doc {x j pos pos'} : DS X E (.Expr (.Constant (.str x) j pos) pos') dNext := ⟨fun G bs => ps_doc.imp fun D σ H ⟨s, R, q⟩ => q σ H R⟩
@[simp] def dExpr (t : TEf) : TSf := fun s => eS (t s) fun r s => some (.nx ⟨s.w, settle r s.e⟩)
theorem ds_expr {e : Expr} {t : TEf} {pos : Pos} (h : DE X E e t) (hs : swapsWith e none pos.line X.env = pure false := by rfl) : DS X E (.Expr e pos) (dExpr t) :=
  ⟨fun G bs => (ps_expr (h.run G bs) hs).imp fun D σ H ⟨s, R, q⟩ => ⟨s.e, s.w, [], R.1, q.first fun r s q v x H' R' r' => q σ H' ⟨(R'.settle r').1.drop, settle_nol⟩⟩⟩
@[simp] def dRet (t : TEf) : TSf := fun s => eS (t s) fun r s => some (.rt r s)
theorem ds_ret {e : Expr} {t : TEf} {pos : Pos} (h : DE X E e t) : DS X E (.Return (some e) pos) (dRet t) :=
  ⟨fun G bs => (ps_ret (h.run G bs)).imp fun D σ H ⟨s, R, q⟩ => ⟨s.e, s.w, [], R.1, q.first fun r s q v x H' R' r' => q σ v x H' R' r'⟩⟩
@[simp] def dRetN : TSf := fun s => some (.rt (.sh .non) s)
theorem ds_retN {pos : Pos} : DS X E (.Return none pos) dRetN := ⟨fun G bs => ps_retN.imp fun D σ H ⟨s, R, q⟩ => q σ .non none H R.1 ⟨rfl, .non⟩⟩
@[simp] def dIfS (t : TTf) (a b : TSf) : TSf := fun s => tS (t s) fun k s => if k = true then a ⟨s.w, calmE s.e⟩ else b ⟨s.w, calmE s.e⟩
theorem ds_if {c : Expr} {a b : List Stmt} {t : TTf} {ta tb : TSf} {pos : Pos} (h : DT X E c t) (ha : DSs X E a ta) (hb : DSs X E b tb) : DS X E (.If c a b pos) (dIfS t ta tb) :=
  ⟨fun G bs => (ps_if (h.run G bs) (ha.run G bs) (hb.run G bs)).imp fun D σ H ⟨s, R, q⟩ => ⟨s.e, s.w, [], R.1, q.firstT fun k s q H' R' => by
    cases k with
    | true => rw [if_pos rfl] at q ⊢; exact ⟨_, R'.calm, q⟩
    | false => rw [if_neg (by decide)] at q ⊢; exact ⟨_, R'.calm, q⟩⟩⟩
theorem ds_never {st : Stmt} : DS X E st fun _ => none := ⟨fun G bs => ps_never.imp fun D σ H ⟨s, R, q⟩ => q.elim⟩

/-! ### stores -/
/-- name = e -/
@[simp] def dSet (i : Nat) (t : TEf) : TSf := fun s => eS (t s) fun r s => if i < s.e.length then some (.nx ⟨s.w, (settle r s.e).set i r⟩) else none
theorem settle_length {r : Sl} {e : List Sl} : (settle r e).length = e.length := by unfold settle settleB; split <;> simp
theorem ds_set {i : Nat} {x : Str} {e : Expr} {t : TEf} {pos pos' : Pos} (hN : X.N.Nodup) (hi : X.N[i]? = some x) (hx : Loc X.env.scope x) (h : DE X E e t) (hs : swapsWith e (some (.Name x pos')) pos.line X.env = pure false := by rfl)
    (hf : X.fn x = true ∨ X.env.scope.names.lookup x = some .local := by first | exact .inl rfl | exact .inr rfl | assumption) : DS X E (.Assign [.Name x pos'] e pos) (dSet i t) :=
  ⟨fun G bs => (ps_set hN hi hx (h.run G bs) hs hf).imp fun D σ H ⟨s, R, q⟩ => ⟨s.e, s.w, [], R.1, q.first fun r s q v x H' R' r' => by
    by_cases hl : i < s.e.length
    · rw [if_pos hl] at q
      obtain ⟨R2, r2⟩ := R'.settle r'
      exact q _ H' (R2.store settle_nol r2 (by rw [settle_length]; exact hl))
    · rw [if_neg hl] at q; exact q.elim⟩⟩
/-- a, b = x, y with plain local names -/
@[simp] def dPar (i j : Nat) (t u : TEf) : TSf := fun s => eS (t s) fun r1 s1 => eS (u s1) fun r2 s2 =>
  if i < s2.e.length ∧ j < s2.e.length ∧ i ≠ j ∧ r1.emp = true then some (.nx ⟨s2.w, ((settleB (r1.clear && r2.clear) s2.e).set j r2).set i r1⟩) else none
theorem ds_par {i j : Nat} {x y : Str} {a b : Expr} {t u : TEf} {px py pt pos : Pos} {kt k2 pt2} (hc : X.calm = true) (hN : X.N.Nodup) (hi : X.N[i]? = some x) (hj : X.N[j]? = some y) (hij : i ≠ j)
    (hx : X.env.scope.names.lookup x = some .local) (hy : X.env.scope.names.lookup y = some .local) (ha : DE X E a t) (hb : DE X E b u)
    (hw : swappedStores [.Tuple [.Name x px, .Name y py] kt pt] (.Tuple [a, b] k2 pt2) X.env = pure (some [x, y]))
    (hs : swapsWithSole [.Tuple [.Name x px, .Name y py] kt pt] (.Tuple [a, b] k2 pt2) pos.line X.env = pure false := by rfl)
    (h1 : starEach [a, b] X.env = (false, eval a X.env) :: starEach [b] X.env := by rfl) (h2 : starEach [b] X.env = (false, eval b X.env) :: starEach [] X.env := by rfl) :
    DS X E (.Assign [.Tuple [.Name x px, .Name y py] kt pt] (.Tuple [a, b] k2 pt2) pos) (dPar i j t u) :=
  ⟨fun G bs => by
    refine ⟨fun pins s0 σ H D I ⟨s, R, q⟩ => ?_⟩
    obtain ⟨R, nl⟩ := R
    have fin : ∀ (G' : GC), (lift X.K G' bs E t σ H fun v H1 => lift X.K G' bs E u σ H1 fun w H2 => D.nx ((σ.set i (some v)).set j (some w)) H2) → wpAny (model X.prog X.w) X.A (exec (.Assign [.Tuple [.Name x px, .Name y py] kt pt] (.Tuple [a, b] k2 pt2) pos) X.env) (SP X pins D) X.xe s0 := fun G' h =>
      (ps_par hc hN hi hj hij hx hy (pa_cons (ha.run G' bs) (pa_cons (hb.run G' bs) pa_nil h2) h1) hw hs).run pins s0 σ H D I (by
        obtain ⟨e, w, pd, R', q'⟩ := h
        exact ⟨e, w, pd, R', q'.mono fun v H1 ⟨e, w, pd, R2, q2⟩ => ⟨e, w, pd, R2, q2.mono fun w H2 z => ⟨v, w, rfl, z⟩⟩⟩)
    match ht : t s with
    | none => unfold dPar at q; rw [ht] at q; exact q.elim
    | some (.exc ex w) =>
      unfold dPar at q; rw [ht] at q
      refine fin G ⟨s.e, s.w, [], R, ?_⟩
      rw [ht]; exact q
    | some (.val r1 s1) =>
      unfold dPar at q; rw [ht] at q
      simp only [eS_val] at q
      by_cases ho : ∃ d, r1 = .own d
      · -- the first one's list is hidden meanwhile: here G is changed within
        obtain ⟨d, rfl⟩ := ho
        have hsnd : PA X [b] fun σ H1 Q => ∃ G', (lift X.K G' bs E u σ H1 fun w H2 => Q [w] H2) := ⟨fun p ps s σ H Q I hz => by
          obtain ⟨G', z⟩ := hz
          exact (pa_cons (hb.run G' bs) pa_nil h2).run p ps s σ H Q I z⟩
        refine (ps_par hc hN hi hj hij hx hy (pa_cons (t := fun σ H1 Q => ∃ G', (lift X.K G' bs E u σ H1 fun w H2 => Q [w] H2)) (ha.run G bs) (hsnd : PA X [b] fun σ H1 Q => ∃ G', (lift X.K G' bs E u σ H1 fun w H2 => Q [w] H2)) h1) hw hs).run pins s0 σ H D I ⟨s.e, s.w, [], R, ?_⟩
        rw [ht]
        intro v x1 H1 R1 q1
        obtain ⟨a1, e1, e2, o1⟩ := q1
        subst e1; subst e2
        have R1 : SRep X.K G bs σ s1.e s1.w [] (some a1) H1 := R1
        obtain ⟨n1, f2, f3⟩ := R1.fr a1 rfl
        refine ⟨G.hide H1 a1, s1.e, s1.w, [], R1.hide o1.box, ?_⟩
        match hu : u s1 with
        | none => rw [hu] at q; exact q.elim
        | some (.exc ex w) =>
          rw [hu] at q
          intro cls dd H' ⟨c, wr, e3, xr⟩
          refine q cls dd H' ⟨fun b o h1 h2 => ?_, wr, e3, ?_⟩
          · have hb : b ≠ a1 := fun z => by rw [z, n1] at h2; cases h2
            exact c b o h1 (by show (if b = a1 then H1 a1 else G.H0 b) = some o; rw [if_neg hb]; exact h2)
          · cases hf : ex.f with
            | none => rw [hf] at xr; exact xr
            | some p =>
              rw [hf] at xr
              obtain ⟨a, v, x1, x2, xn, x3⟩ := xr
              exact ⟨a, v, x1, x2, fun z => xn (z.elim (fun z => .inl (.inl z)) .inr), x3.av fun b z => z.elim (fun z => .inl (.inl z)) .inr⟩
        | some (.val r2 s2) =>
          rw [hu] at q
          simp only [eS_val] at q
          intro w x2 H2 R2 q2
          refine ⟨.ref a1, w, rfl, ?_⟩
          by_cases hcc : i < s2.e.length ∧ j < s2.e.length ∧ i ≠ j ∧ (Sl.own d).emp = true
          · rw [if_pos hcc] at q
            obtain ⟨l1, l2, l3, l4⟩ := hcc
            have cl : (Sl.own d).clear = true := by
              cases d with
              | lst l => cases l with
                | nil => rfl
                | cons _ _ => cases l4
              | dk l => cases l with
                | nil => rfl
                | cons _ _ => cases l4
              | dt l => cases l with
                | nil => rfl
                | cons _ _ => cases l4
              | _ => exact o1.elim
            rw [cl, Bool.true_and] at q
            have st := R2.settle q2
            have s3 := st.1.store settle_nol st.2 (by rw [settle_length]; exact l2)
            obtain ⟨R3, ha⟩ := s3.1.unhide R1.dom R1.drd n1 f3
            have nl3 := s3.2
            have v1 : VRep X.K G (σ.set j (some w)) ((settle r2 s2.e).set j r2) (some a1) H2 (.ref a1) (.own d) := by
              refine ⟨a1, rfl, rfl, ?_⟩
              cases d with
              | lst l =>
                cases l with
                | nil =>
                  obtain ⟨xs, z, r⟩ := o1
                  cases r
                  exact ⟨[], ha.trans z, .nil⟩
                | cons _ _ => cases l4
              | dk l =>
                cases l with
                | nil =>
                  obtain ⟨xs, z, r⟩ := o1
                  cases r
                  exact ⟨[], ha.trans z, .nil⟩
                | cons _ _ => cases l4
              | dt l =>
                cases l with
                | nil =>
                  obtain ⟨xs, z, r⟩ := o1
                  cases r
                  exact ⟨[], ha.trans z, .nil⟩
                | cons _ _ => cases l4
              | _ => exact o1.elim
            have s4 := R3.store nl3 v1 (by rw [List.length_set, settle_length]; exact l1)
            rw [List.set_comm _ _ hij]
            exact q _ H2 s4
          · rw [if_neg hcc] at q; exact q.elim
      · refine fin G ⟨s.e, s.w, [], R, ?_⟩
        rw [ht]
        intro v x1 H1 R1 q1
        have R1p := R1.push q1
        have rw1 : r1.weak = r1 := by
          cases r1 with
          | own d => exact absurd ⟨d, rfl⟩ ho
          | _ => rfl
        rw [rw1] at R1p
        refine ⟨s1.e, s1.w, _, R1p, ?_⟩
        match hu : u s1 with
        | none => rw [hu] at q; exact q.elim
        | some (.exc ex w) => rw [hu] at q; exact q
        | some (.val r2 s2) =>
          rw [hu] at q
          simp only [eS_val] at q
          intro w x2 H2 R2 q2
          by_cases hcc : i < s2.e.length ∧ j < s2.e.length ∧ i ≠ j ∧ r1.emp = true
          · rw [if_pos hcc] at q
            obtain ⟨l1, l2, l3, _⟩ := hcc
            have st := R2.settleB (c := r1.clear && r2.clear) q2 fun z => by
              rw [Bool.and_eq_true] at z
              exact ⟨z.2, fun p hp => by rw [List.mem_singleton.mp hp]; exact z.1⟩
            have s3 := st.1.store settleB_nol st.2 (by unfold settleB; split <;> (rw [List.length_map]; exact l2))
            have tp := s3.1.top
            have v1 : VRep X.K G (σ.set j (some w)) ((settleB (r1.clear && r2.clear) s2.e).set j r2) none H2 v r1 := by
              cases r1 with
              | sh d => exact ⟨rfl, tp⟩
              | dr => exact ⟨rfl, tp⟩
              | no => exact tp.elim
              | own d => exact tp.elim
              | lck d => exact tp.elim
            have s4 := s3.1.pop.store s3.2 v1 (by rw [List.length_set]; unfold settleB; split <;> (rw [List.length_map]; exact l1))
            rw [List.set_comm _ _ hij]
            exact q _ H2 s4
          · rw [if_neg hcc] at q; exact q.elim⟩
end
end DL

end

section -- DL5
set_option Elab.async false
set_option linter.all false
set_option maxRecDepth 100000
set_option maxHeartbeats 2000000
/-! DL5: targets, for, while, comprehensions, append, pop. -/
namespace DL
open PySem PySem.Spec L2

/-! ### what is walked -/
/-- J yields the items ds, by what src says -/
def ItOk (K : PySem.W.Frag) (J : It) (src : Bs) (ds : List D) : Prop := ∀ (Av : AS) (H : Hp), (∀ p ∈ src, Rep K Av H p.1 p.2) →
  (∀ i, i < ds.length → J.go i H ∧ ∀ x H', J.yld i H x H' → ∃ d, ds[i]? = some d ∧ ((H' = H ∧ Rep K Av H x d) ∨ ∃ p vs l, x = .ref p ∧ H p = none ∧ H' = upd H p (.tup vs) ∧ d = .tup l ∧ RepAll K Av H vs l)) ∧
  (∀ i, ds.length ≤ i → J.stop i H)
inductive RI where
  | it (ds : List D) (c : Bool) (s : S)
  | exc (x : Ex) (w : W)
abbrev TIf := S → Option RI
def pdOf (src : Bs) : Pd := src.map fun p => (p.1, .sh p.2)
def LI (K : PySem.W.Frag) (G : GC) (bs : Bs) (E : XK) (σ : St) (pd : Pd) (R : It → Hp → Prop) : Option RI → Prop
  | some (.it ds c s) => ∀ J H' src, SRep K G bs σ s.e s.w (pdOf src ++ pd) none H' → ItOk K J src ds → (c = true → ∀ p ∈ src, p.2.imm = true) → R J H'
  | some (.exc ex w) => ∀ cls dd H', XEnd K G ex w cls dd H' → E cls dd H'
  | none => False
def liftI (K : PySem.W.Frag) (G : GC) (bs : Bs) (E : XK) (t : TIf) : TI := fun σ H R => ∃ e w pd, SRep K G bs σ e w pd none H ∧ LI K G bs E σ pd R (t ⟨w, e⟩)
structure DI (X : Cx) (E : XK) (tg e : Expr) (t : TIf) : Prop where
  run : ∀ G bs, PI X tg e (liftI X.K G bs E t)
def eI (r : Option RE) (k : Sl → S → Option RI) : Option RI := match r with
  | some (.val v s) => k v s
  | some (.exc x w) => some (.exc x w)
  | none => none
@[simp] theorem eI_val (v : Sl) (s : S) (k : Sl → S → Option RI) : eI (some (.val v s)) k = k v s := rfl
@[simp] theorem eI_exc (x : Ex) (w : W) (k : Sl → S → Option RI) : eI (some (.exc x w)) k = some (.exc x w) := rfl
@[simp] theorem eI_none (k : Sl → S → Option RI) : eI none k = none := rfl
def aI (r : Option RA) (k : List Sl → S → Option RI) : Option RI := match r with
  | some (.vals v s) => k v s
  | some (.exc x w) => some (.exc x w)
  | none => none
@[simp] theorem aI_val (v : List Sl) (s : S) (k : List Sl → S → Option RI) : aI (some (.vals v s)) k = k v s := rfl
@[simp] theorem aI_exc (x : Ex) (w : W) (k : List Sl → S → Option RI) : aI (some (.exc x w)) k = some (.exc x w) := rfl
@[simp] theorem aI_none (k : List Sl → S → Option RI) : aI none k = none := rfl
def iS (r : Option RI) (k : List D → Bool → S → Option Fl) : Option Fl := match r with
  | some (.it v c s) => k v c s
  | some (.exc x w) => some (.exc x w)
  | none => none
@[simp] theorem iS_val (v : List D) (c : Bool) (s : S) (k : List D → Bool → S → Option Fl) : iS (some (.it v c s)) k = k v c s := rfl
@[simp] theorem iS_exc (x : Ex) (w : W) (k : List D → Bool → S → Option Fl) : iS (some (.exc x w)) k = some (.exc x w) := rfl
@[simp] theorem iS_none (k : List D → Bool → S → Option Fl) : iS none k = none := rfl
def iE (r : Option RI) (k : List D → S → Option RE) : Option RE := match r with
  | some (.it v _ s) => k v s
  | some (.exc x w) => some (.exc x w)
  | none => none
@[simp] theorem iE_val (v : List D) (c : Bool) (s : S) (k : List D → S → Option RE) : iE (some (.it v c s)) k = k v s := rfl
@[simp] theorem iE_exc (x : Ex) (w : W) (k : List D → S → Option RE) : iE (some (.exc x w)) k = some (.exc x w) := rfl
@[simp] theorem iE_none (k : List D → S → Option RE) : iE none k = none := rfl

/-- a list, a tuple, a text walked -/
def iSeq (K : PySem.W.Frag) (tl : TE) : TI := fun σ H R => tl σ H fun x H1 => (∃ a, x = .ref a ∧ (∃ xs, SqL K H1 a xs) ∧ R (Itl K a) H1) ∨ (∃ a, x = .ref a ∧ (∃ xs, SqT K H1 a xs) ∧ R (Itt K a) H1) ∨ (∃ z, x = .str z ∧ R (Its z) H1)
theorem pi_seq {X : Cx} {tg l : Expr} {tl : TE} (hl : PE X l tl) : PI X tg l (iSeq X.K tl) := by
  refine ⟨fun pins s σ H R I h => ?_⟩
  refine thn (hl.run pins s σ H _ I h) fun v s1 ⟨x, H1, I1, r1, q1⟩ => ?_
  rcases q1 with ⟨a, e, ⟨xs, hq⟩, q⟩ | ⟨a, e, ⟨xs, hq⟩, q⟩ | ⟨z, e, q⟩
  · subst e
    cases r1
    obtain ⟨its, rv, p, hz⟩ := I1.list hq
    refine wpAny_pyIter_list p.isList ?_
    refine ⟨s1.heap.objs.size, [s1.heap.objs.size], _, _, H1, rfl, I1.kept (t' := s1.toks) fun b o e => Heap.get?_push_of_some _ e, turn_list a _, ⟨_, Heap.get?_push_size _ rfl, rfl, rfl⟩, fun b hb => ?_, q⟩
    have e : b = s1.heap.objs.size := by simpa using hb
    subst e
    exact I1.fpOk (Nat.le_refl _) (I1.hok.fresh (Nat.le_refl _))
  · subst e
    cases r1
    obtain ⟨its, rv, p, hz⟩ := I1.tuple hq
    refine wpAny_pyIter_tuple (show s1.heap.IsTuple a its.toArray from p) ?_
    refine ⟨s1.heap.objs.size, [s1.heap.objs.size], _, _, H1, rfl, I1.kept (t' := s1.toks) fun b o e => Heap.get?_push_of_some _ e, turn_tuple a _, ⟨_, Heap.get?_push_size _ rfl, rfl, rfl⟩, fun b hb => ?_, q⟩
    have e : b = s1.heap.objs.size := by simpa using hb
    subst e
    exact I1.fpOk (Nat.le_refl _) (I1.hok.fresh (Nat.le_refl _))
  · subst e
    obtain ⟨t, rfl⟩ := r1
    cases ha : z.cps.all (· < 128)
    · exact wpAny_pyIter_wide ha (pi_one (tk := s1.toks) I1 _ (turn_str _ z t "str_iterator" (.inr rfl)) ⟨_, Heap.get?_push_size _ rfl, rfl, rfl⟩ q)
    · exact wpAny_pyIter_ascii ha (pi_one (tk := s1.toks) I1 _ (turn_str _ z t "str_ascii_iterator" (.inl rfl)) ⟨_, Heap.get?_push_size _ rfl, rfl, rfl⟩ q)
/-- the items of what is walked -/
@[simp] def itemsOf : D → Option (List D)
  | .lst l => some l
  | .tup l => some l
  | .str x => some (x.cps.toList.map fun c => .str ⟨#[c]⟩)
  | _ => none
@[simp] theorem itemsOf_lst (l : List D) : itemsOf (.lst l) = some l := rfl
@[simp] theorem itemsOf_tup (l : List D) : itemsOf (.tup l) = some l := rfl
theorem SqLA.inj {K : PySem.W.Frag} {Av : AS} {H : Hp} {a : Addr} {xs : List V} (h : SqLA K Av H a xs) {ys : List V} (q : SqL K H a ys) : xs = ys ∨ True := .inr True.intro
theorem rd_lst_inj {H : Hp} {a : Addr} {xs ys : List V} (h : Rd H a (.lst xs)) (q : Rd H a (.lst ys)) : xs = ys := by
  rcases h with h | ⟨o, h⟩ <;> rcases q with q | ⟨o', q⟩ <;> (rw [h] at q; first | (cases q; done) | (cases q; rfl))
theorem rd_tup_inj {H : Hp} {a : Addr} {xs ys : List V} (h : Rd H a (.tup xs)) (q : Rd H a (.tup ys)) : xs = ys := by
  rcases h with h | ⟨o, h⟩ <;> rcases q with q | ⟨o', q⟩ <;> (rw [h] at q; first | (cases q; done) | (cases q; rfl))
/-- the walk of a list: what it yields is the list's, if the list is told as data -/
theorem itOk_lst {K : PySem.W.Frag} {a : Addr} {l : List D} : ItOk K (Itl K a) [(.ref a, .lst l)] l := by
  intro Av H hs
  obtain ⟨a', xs, e, q, r⟩ := (hs _ List.mem_cons_self : Rep K Av H (.ref a) (.lst l)).lst_inv
  cases e
  have hl := r.length
  refine ⟨fun i hi => ⟨⟨xs, xs[i]'(by omega), q.sq, List.getElem?_eq_getElem _⟩, fun x H' y => ?_⟩, fun i hi => ⟨xs, q.sq, by omega⟩⟩
  obtain ⟨e, y⟩ := y
  subst e
  have hx := y xs q.sq
  obtain ⟨d, e1, r1⟩ := r.getV hx
  exact ⟨d, e1, .inl ⟨rfl, r1⟩⟩
theorem itOk_tup {K : PySem.W.Frag} {a : Addr} {l : List D} : ItOk K (Itt K a) [(.ref a, .tup l)] l := by
  intro Av H hs
  obtain ⟨a', xs, e, q, r⟩ := (hs _ List.mem_cons_self : Rep K Av H (.ref a) (.tup l)).tup_inv
  cases e
  have hl := r.length
  refine ⟨fun i hi => ⟨⟨xs, xs[i]'(by omega), q.sq, List.getElem?_eq_getElem _⟩, fun x H' y => ?_⟩, fun i hi => ⟨xs, q.sq, by omega⟩⟩
  obtain ⟨e, y⟩ := y
  subst e
  have hx := y xs q.sq
  obtain ⟨d, e1, r1⟩ := r.getV hx
  exact ⟨d, e1, .inl ⟨rfl, r1⟩⟩
theorem itOk_str {K : PySem.W.Frag} {z : Str} : ItOk K (Its z) [] (z.cps.toList.map fun c => .str ⟨#[c]⟩) := by
  intro Av H _
  refine ⟨fun i hi => ⟨?_, fun x H' y => ?_⟩, fun i hi => ?_⟩
  · show i < z.cps.size
    simpa using hi
  · obtain ⟨e, c, h1, h2⟩ := y
    subst e; subst h2
    refine ⟨.str ⟨#[c]⟩, ?_, .inl ⟨rfl, .str _⟩⟩
    rw [List.getElem?_map, Array.getElem?_toList, h1]
    rfl
  · show z.cps.size ≤ i
    simpa using hi
theorem itOk_rng {K : PySem.W.Frag} {lo : Int} {n : Nat} {src : Bs} : ItOk K (Itr lo n) src ((List.range n).map fun i => .int (lo + (i : Nat))) := by
  intro Av H _
  refine ⟨fun i hi => ⟨?_, fun x H' y => ?_⟩, fun i hi => ?_⟩
  · show i < n
    simpa using hi
  · obtain ⟨e, h2⟩ := y
    subst e; subst h2
    refine ⟨.int (lo + (i : Nat)), ?_, .inl ⟨rfl, .int _⟩⟩
    rw [List.length_map, List.length_range] at hi
    rw [List.getElem?_map, List.getElem?_range hi]
    rfl
  · show n ≤ i
    simpa using hi
@[simp] def iSq (t : TEf) : TIf := fun s => eI (t s) fun x s => match x.dat with
  | some d => (itemsOf d).map fun l => .it l d.imm s
  | none => none
section
variable {X : Cx} {E : XK}
theorem LI.first {K : PySem.W.Frag} {G : GC} {bs : Bs} {σ : St} {pd pd' : Pd} {R : It → Hp → Prop} {o : Option RE} {k : Sl → S → Option RI} {Q' : VK} (h : LI K G bs E σ pd R (eI o k))
    (hk : ∀ r s, LI K G bs E σ pd R (k r s) → ∀ v x H', SRep K G bs σ s.e s.w pd' x H' → VRep K G σ s.e x H' v r → Q' v H') : LQ K G bs E σ pd' Q' o := by
  match o with
  | some (.val r s) => exact hk r s h
  | some (.exc _ _) => exact h
  | none => exact h.elim
theorem LI.firstA {K : PySem.W.Frag} {G : GC} {bs : Bs} {σ : St} {pd pd' : Pd} {R : It → Hp → Prop} {o : Option RA} {k : List Sl → S → Option RI} {Q' : List V → Hp → Prop} (h : LI K G bs E σ pd R (aI o k))
    (hk : ∀ r s, LI K G bs E σ pd R (k r s) → ∀ v H', v.length = r.length → SRep K G bs σ s.e s.w (v.zip r ++ pd') none H' → Q' v H') : LA K G bs E σ pd' Q' o := by
  match o with
  | some (.vals r s) => exact hk r s h
  | some (.exc _ _) => exact h
  | none => exact h.elim
theorem di_seq {tg l : Expr} {t : TEf} (h : DE X E l t) : DI X E tg l (iSq t) :=
  ⟨fun G bs => (pi_seq (h.run G bs)).imp fun σ H R ⟨e, w, pd, SR, q⟩ => ⟨e, w, pd, SR, q.first fun r s q v x H' R' r' => by
    have R2 := R'.push r'
    cases hd : r.dat with
    | none => simp only [hd] at q; exact q.elim
    | some d =>
      simp only [hd] at q
      rw [weak_of_dat hd] at R2
      cases d with
      | lst l =>
        obtain ⟨a, xs, e1, q1, _⟩ := R2.topD.lst_inv
        subst e1
        exact .inl ⟨a, rfl, ⟨xs, q1.sq⟩, q (Itl X.K a) H' [(.ref a, .lst l)] R2 itOk_lst fun h p hp => by rw [List.mem_singleton.mp hp]; exact h⟩
      | tup l =>
        obtain ⟨a, xs, e1, q1, _⟩ := R2.topD.tup_inv
        subst e1
        exact .inr (.inl ⟨a, rfl, ⟨xs, q1.sq⟩, q (Itt X.K a) H' [(.ref a, .tup l)] R2 itOk_tup fun h p hp => by rw [List.mem_singleton.mp hp]; exact h⟩)
      | str z =>
        have e1 := R2.topD.str_inv
        subst e1
        exact .inr (.inr ⟨z, rfl, q (Its z) H' [] R2.pop itOk_str fun _ p hp => absurd hp (by simp)⟩)
      | _ => exact q.elim⟩⟩
/-- range(n) -/
@[simp] def rng1 (n : Int) : Option (List D) := if n < 4611686018427387904 then some ((List.range n.toNat).map fun i => .int (i : Nat)) else none
@[simp] def iRg1 (u : TAf) : TIf := fun s => aI (u s) fun xs s => match xs with
  | [.sh (.int n)] => if -4611686018427387904 ≤ n then (rng1 n).map fun l => .it l true s else none
  | _ => none
theorem di_range1 {tg a : Expr} {u : TAf} {p pos : Pos} (hg : Gl X "range") (hm : X.mg "range" = none) (ha : DA X E [a] u) (hs : starEach [a] X.env = [(false, eval a X.env)] := by rfl) : DI X E tg (.Call (.Name "range" p) [a] [] pos) (iRg1 u) :=
  ⟨fun G bs => (pi_range1 hg hm (ha.run G bs) hs).imp fun σ H R ⟨e, w, pd, SR, q⟩ => ⟨e, w, pd, SR, q.firstA fun rs s q vs H' hl R' => by
    match rs, hl, q, R' with
    | [.sh (.int n)], hl, q, R' =>
      match vs, hl with
      | [v], _ =>
        have r1 : Rep X.K (AvP G σ s.e none) H' v (.int n) := R'.pend (v, .sh (.int n)) (by simp)
        have e1 := r1.int_inv
        subst e1
        simp only at q
        by_cases h0 : -4611686018427387904 ≤ n
        · rw [if_pos h0] at q
          by_cases h1 : n < 4611686018427387904
          · rw [rng1, if_pos h1] at q
            refine ⟨n, rfl, by omega, by omega, ?_⟩
            refine q (Itr 0 n.toNat) H' [] (R'.rest) ?_ fun _ p hp => absurd hp (by simp)
            have := itOk_rng (K := X.K) (lo := 0) (n := n.toNat) (src := [])
            simpa using this
          · rw [rng1, if_neg h1] at q; exact q.elim
        · rw [if_neg h0] at q; exact q.elim
    | [], _, q, _ => exact q.elim
    | .no :: _, _, q, _ => exact q.elim
    | .own _ :: _, _, q, _ => exact q.elim
    | .lck _ :: _, _, q, _ => exact q.elim
    | .dr :: _, _, q, _ => exact q.elim
    | .sh .non :: _, _, q, _ => exact q.elim
    | .sh (.bl _) :: _, _, q, _ => exact q.elim
    | .sh (.str _) :: _, _, q, _ => exact q.elim
    | .sh (.tup _) :: _, _, q, _ => exact q.elim
    | .sh (.lst _) :: _, _, q, _ => exact q.elim
    | .sh (.dk _) :: _, _, q, _ => exact q.elim
    | .sh (.dt _) :: _, _, q, _ => exact q.elim
    | .sh (.raw _) :: _, _, q, _ => exact q.elim
    | .sh (.fn _ _ _ _ _) :: _, _, q, _ => exact q.elim
    | .sh (.exn0 _) :: _, _, q, _ => exact q.elim
    | .sh (.exn1 _ _ _) :: _, _, q, _ => exact q.elim
    | .sh (.int _) :: _ :: _, _, q, _ => exact q.elim⟩⟩

/-! ### targets -/
abbrev TGf := D → S → Option S
def LG (K : PySem.W.Frag) (G : GC) (bs : Bs) (σ : St) (pd : Pd) (H : Hp) (Q : St → Hp → Prop) : Option S → Prop
  | some s => ∀ σ', SRep K G bs σ' s.e s.w pd none H → NoL s.e → Q σ' H
  | none => False
/-- own names that a comprehension has are given by vs: what else is in the slots stays -/
structure DG (X : Cx) (tg : Expr) (t : TGf) (vs : List Nat) (g : TG) : Prop where
  pg : PG X tg g
  run : ∀ (G : GC) (bs : Bs) (σ : St) (e : List Sl) (w : W) (pd : Pd) (H : Hp) (v : V) (d : D) (s' : S) (Q : St → Hp → Prop), SRep X.K G bs σ e w pd none H → Rep X.K (AvA G σ e none) H v d → t d ⟨w, e⟩ = some s' →
    (∀ σ', SRep X.K G bs σ' s'.e s'.w pd none H → (NoL e → NoL s'.e) → wipe σ' vs = wipe σ vs → Q σ' H) → g v σ H Q
/-- x -/
@[simp] def gNm (i : Nat) : TGf := fun d s => if i < s.e.length then some ⟨s.w, s.e.set i (.sh d)⟩ else none
theorem wipe_set (σ : St) (o : Option V) : ∀ (vs : List Nat) (i : Nat), i ∈ vs → wipe (σ.set i o) vs = wipe σ vs
  | v :: vs, i, h => by
    unfold wipe
    by_cases e : i = v
    · subst e
      by_cases h2 : i ∈ vs
      · rw [wipe_set σ o vs i h2]
      · have : ∀ (vs : List Nat), i ∉ vs → wipe (σ.set i o) vs = (wipe σ vs).set i o := fun vs => by
          intro h2
          induction vs with
          | nil => rfl
          | cons u us ih =>
            unfold wipe
            rw [ih fun z => h2 (List.mem_cons_of_mem _ z), List.set_comm]
            intro z; exact h2 (z ▸ List.mem_cons_self)
        rw [this vs h2, List.set_set]
    · rw [wipe_set σ o vs i (by simpa [e] using h)]
theorem dg_name {i : Nat} {x : Str} {pos : Pos} {vs : List Nat} (hN : X.N.Nodup) (hi : X.N[i]? = some x) (hx : Loc X.env.scope x) (hv : i ∈ vs)
    (hf : X.fn x = true ∨ X.env.scope.names.lookup x = some .local := by first | exact .inl rfl | exact .inr rfl | assumption) : DG X (.Name x pos) (gNm i) vs (gName i) :=
  ⟨pg_name hN hi hx hf, fun G bs σ e w pd H v d s' Q R r ht hq => by
    unfold gNm at ht
    by_cases hl : i < e.length
    · rw [if_pos hl] at ht
      cases ht
      have q := R.storeA r hl
      exact hq _ q.1 q.2 (wipe_set _ _ _ _ hv)
    · rw [if_neg hl] at ht; cases ht⟩
/-- (a, b, ..) -/
@[simp] def gTp : List TGf → List D → S → Option S
  | [], [], s => some s
  | g :: gs, d :: ds, s => match g d s with
    | some s => gTp gs ds s
    | none => none
  | _, _, _ => none
@[simp] def gTpl (gs : List TGf) : TGf := fun d s => match d with
  | .tup l => gTp gs l s
  | _ => none
structure DGs (X : Cx) (tgs : List Expr) (ts : List TGf) (vs : List Nat) (g : TGs) : Prop where
  pg : PGs X tgs g
  run : ∀ (G : GC) (bs : Bs) (σ : St) (e : List Sl) (w : W) (pd : Pd) (H : Hp) (vs' : List V) (ds : List D) (s' : S) (Q : St → Hp → Prop), SRep X.K G bs σ e w pd none H → (∀ p ∈ vs'.zip ds, p ∈ bs) → vs'.length = ds.length → gTp ts ds ⟨w, e⟩ = some s' →
    (∀ σ', SRep X.K G bs σ' s'.e s'.w pd none H → (NoL e → NoL s'.e) → wipe σ' vs = wipe σ vs → Q σ' H) → g vs' σ H Q
theorem dgs_nil {vs : List Nat} : DGs X [] [] vs gNil := ⟨pgs_nil, fun G bs σ e w pd H vs' ds s' Q R r hl ht hq => by
  cases ds with
  | nil =>
    cases vs' with
    | nil => cases ht; exact ⟨rfl, hq _ R id rfl⟩
    | cons _ _ => cases hl
  | cons _ _ => cases ht⟩
theorem dgs_cons {e : Expr} {es : List Expr} {t : TGf} {ts : List TGf} {vs : List Nat} {g : TG} {g2 : TGs} (h : DG X e t vs g) (h2 : DGs X es ts vs g2) (hs : (assignEach (e :: es) X.env).map (·.2) = assign e X.env :: (assignEach es X.env).map (·.2) := by rfl) : DGs X (e :: es) (t :: ts) vs (gCons g g2) := by
  refine ⟨pgs_cons h.pg h2.pg hs, fun G bs σ e w pd H vs' ds s' Q R r hl ht hq => ?_⟩
  cases ds with
  | nil => cases ht
  | cons d ds =>
    cases vs' with
    | nil => cases hl
    | cons v vs' =>
      unfold gTp at ht
      cases h1 : t d ⟨w, e⟩ with
      | none => rw [h1] at ht; cases ht
      | some s1 =>
        rw [h1] at ht
        refine ⟨v, vs', rfl, h.run G bs σ e w pd H v d s1 _ R (R.base _ (r (v, d) (by simp))) h1 fun σ' R' n' w' => ?_⟩
        exact h2.run G bs σ' s1.e s1.w pd H vs' ds s' Q R' (fun p hp => r p (by rw [List.zip_cons_cons]; exact List.mem_cons_of_mem _ hp)) (by simpa using hl) ht fun σ2 R2 n2 w2 => hq σ2 R2 (fun z => n2 (n' z)) (w2.trans w')
theorem SRep.baseAdd {K : PySem.W.Frag} {G : GC} {bs : Bs} {σ : St} {e : List Sl} {w : W} {pd : Pd} {H : Hp} {x : Option Addr} (R : SRep K G bs σ e w pd x H) {src : Bs} (h : ∀ p ∈ src, Rep K (AvA G σ e x) H p.1 p.2) : SRep K G (src ++ bs) σ e w pd x H :=
  ⟨R.len, R.ext, R.dom, R.drd, R.wr, R.slot, R.inj, R.pend, fun p hp => (List.mem_append.mp hp).elim (h p) (R.base p), R.fr⟩
theorem SRep.baseSub {K : PySem.W.Frag} {G : GC} {bs bs' : Bs} {σ : St} {e : List Sl} {w : W} {pd : Pd} {H : Hp} {x : Option Addr} (R : SRep K G bs σ e w pd x H) (h : ∀ p ∈ bs', p ∈ bs) : SRep K G bs' σ e w pd x H :=
  ⟨R.len, R.ext, R.dom, R.drd, R.wr, R.slot, R.inj, R.pend, fun p hp => R.base p (h p hp), R.fr⟩
theorem mem_zip_rep {K : PySem.W.Frag} {Av : AS} {H : Hp} : ∀ {vs : List V} {ds : List D}, RepAll K Av H vs ds → ∀ p ∈ vs.zip ds, Rep K Av H p.1 p.2
  | _, _, .nil, p, h => by simp at h
  | _, _, .cons r t, p, h => by
    rw [List.zip_cons_cons] at h
    rcases List.mem_cons.mp h with e | h
    · rw [e]; exact r
    · exact mem_zip_rep t p h
theorem dg_tup {es : List Expr} {k : Nat} {pos : Pos} {ts : List TGf} {vs : List Nat} {n : Nat} {g : TGs} (hc : X.calm = true) (h : DGs X es ts vs g) (hn : (assignEach es X.env).length = n := by rfl) (hl : ts.length = n := by rfl) (hst : (assignEach es X.env).findIdx? (·.1) = none := by rfl) : DG X (.Tuple es k pos) (gTpl ts) vs (gTup X.K n g) := by
  refine ⟨pg_tup hc h.pg hn hst, fun G bs σ e w pd H v d s' Q R r ht hq => ?_⟩
  unfold gTpl at ht
  cases d with
  | tup l =>
    obtain ⟨a, xs, e1, h1, r1⟩ := r.tup_inv
    subst e1
    have len : ∀ (ts : List TGf) (l : List D) (s s' : S), gTp ts l s = some s' → l.length = ts.length := fun ts => by
      induction ts with
      | nil => intro l s s' h; cases l with
        | nil => rfl
        | cons _ _ => cases h
      | cons t ts ih => intro l s s' h; cases l with
        | nil => cases h
        | cons d l =>
          unfold gTp at h
          cases h1 : t d s with
          | none => rw [h1] at h; cases h
          | some s1 => rw [h1] at h; rw [List.length_cons, List.length_cons, ih _ _ _ h]
    refine ⟨a, xs, rfl, h1.sq, by rw [r1.length, len _ _ _ _ ht, hl], ?_⟩
    exact h.run G (xs.zip l ++ bs) σ e w pd H xs l s' Q (R.baseAdd (mem_zip_rep r1)) (fun p hp => List.mem_append_left _ hp) r1.length ht fun σ' R' n' w' => hq σ' (R'.baseSub fun p hp => List.mem_append_right _ hp) n' w'
  | _ => cases ht

/-! ### for -/
def forS (asg : TGf) (body : TSf) : List D → S → Option Fl
  | [], s => some (.nx s)
  | d :: ds, s => match asg d s with
    | none => none
    | some s1 => match body s1 with
      | some (.nx s2) => forS asg body ds s2
      | some (.ct s2) => forS asg body ds s2
      | some (.bk s2) => some (.nx s2)
      | r => r
/-- what is walked is shared for good, unless it is made of numbers alone -/
def dFor (ti : TIf) (asg : TGf) (body : TSf) : TSf := fun s => iS (ti s) fun ds c s => forS asg body ds ⟨s.w, settleB c s.e⟩
theorem frz_none {e : List Sl} (n : NoL e) : e.map Sl.frz = e := by
  apply List.ext_getElem?
  intro i
  rw [List.getElem?_map]
  cases q : e[i]? with
  | none => rfl
  | some s =>
    cases s with
    | lck d => exact absurd q (n i d)
    | _ => rfl
theorem frz_nol {e : List Sl} : NoL (e.map Sl.frz) := fun i d h => by
  rw [List.getElem?_map] at h
  cases q : e[i]? with
  | none => rw [q] at h; cases h
  | some s => rw [q] at h; cases s <;> cases h
/-- all locked ones are shared for good -/
theorem SRep.frzAll {K : PySem.W.Frag} {G : GC} {bs : Bs} {σ : St} {e : List Sl} {w : W} {pd : Pd} {H : Hp} (R : SRep K G bs σ e w pd none H) : SRep K G bs σ (e.map Sl.frz) w pd none H := by
  have h : VRep K G σ e none H .non (.sh .non) := ⟨rfl, .non⟩
  exact (R.settleB (c := false) h (fun z => by cases z)).1
theorem ds_for {tg iter : Expr} {body : List Stmt} {ti : TIf} {asg : TGf} {tb : TSf} {pos : Pos} (hp : PassesOwn (model X.prog X.w) X.A X.env X.xe) (hc : X.calm = true) (hi : DI X E tg iter ti) {vs : List Nat} {g : TG} (hg : DG X tg asg vs g) (hb : DSs X E body tb)
    (hs : ∀ x, foldedSetIterable iter X.env x = pure x := by intro _; rfl) : DS X E (.For tg iter body [] pos) (dFor ti asg tb) := ⟨fun G bs => by
  refine ⟨fun pins s0 σ H D I h => ?_⟩
  obtain ⟨s, R, q⟩ := h
  match ht : ti s with
  | none => unfold dFor at q; rw [ht] at q; exact q.elim
  | some (.exc ex w) =>
    unfold dFor at q; rw [ht] at q
    refine (ps_for hp hc (hi.run G bs) hg.pg (hb.run G bs) hs).run pins s0 σ H D I ?_
    exact ⟨s.e, s.w, [], R.1, by rw [ht]; exact q⟩
  | some (.it ds c s1) =>
    unfold dFor at q; rw [ht] at q
    -- the body's judgement over the base of what is walked: chosen when it is known
    have hb' : PSs X body fun D σ H => ∃ bs', liftS X.K G bs' E tb D σ H := ⟨fun pins s σ H D I ⟨bs', z⟩ => (hb.run G bs').run pins s σ H D I z⟩
    refine (ps_for hp hc (hi.run G bs) hg.pg hb' hs).run pins s0 σ H D I ?_
    refine ⟨s.e, s.w, [], R.1, ?_⟩
    rw [ht]
    intro J H1 src R1 hJ hc1
    have R2 : SRep X.K G bs σ (settleB c s1.e) s1.w (pdOf src ++ []) none H1 := (R1.settleB (c := c) (v := .non) (r := .sh .non) ⟨rfl, .non⟩ fun z => ⟨rfl, fun p hp => by
      rw [List.append_nil] at hp
      obtain ⟨y, hy, e⟩ := List.mem_map.mp hp
      subst e
      exact hc1 z y hy⟩).1
    have bsr : ∀ p ∈ src, Rep X.K (AvA G σ (settleB c s1.e) none) H1 p.1 p.2 := fun p hp => by
      have := R2.pend (p.1, .sh p.2) (List.mem_append_left _ (List.mem_map.mpr ⟨p, hp, rfl⟩))
      exact (show Rep X.K _ H1 p.1 p.2 from this).av fun b z => by
        rcases z with z | z | z | z
        · exact .inl z
        · exact .inr (.inl z)
        · exact .inr (.inr (.inl (settleB_nol.ownS z)))
        · cases z
    have R3 : SRep X.K G (src ++ bs) σ (settleB c s1.e) s1.w [] none H1 := (R2.pds (pd' := []) fun _ z => absurd z (by simp)).baseAdd bsr
    refine ⟨fun i m σ H => i + m = ds.length ∧ ∃ s, SR0 X.K G (src ++ bs) σ s H ∧ LS X.K G bs E D (forS asg tb (ds.drop i) s), ⟨ds.length, by omega, ⟨s1.w, settleB c s1.e⟩, ⟨R3, settleB_nol⟩, q⟩, fun i m σ H ⟨him, s, ⟨R4, nl⟩, q⟩ => ?_⟩
    have ok := hJ (AvA G σ s.e none) H fun p hp => R4.base p (List.mem_append_left _ hp)
    by_cases hi : i < ds.length
    · refine .inr ⟨(ok.1 i hi).1, fun σ' H' => ∃ s', SR0 X.K G (src ++ bs) σ' s' H' ∧ LS X.K G bs E D (forS asg tb (ds.drop (i + 1)) s'), fun σ' H' ⟨s', R', q'⟩ => ⟨m - 1, by omega, by omega, s', R', q'⟩, fun x H' y => ?_⟩
      obtain ⟨d, hd, hx⟩ := (ok.1 i hi).2 x H' y
      rw [List.drop_eq_getElem_cons hi] at q
      have ed : ds[i] = d := by rw [List.getElem?_eq_getElem hi] at hd; exact Option.some.inj hd
      rw [ed] at q
      unfold forS at q
      -- the item
      have it : SRep X.K G (src ++ bs) σ s.e s.w [] none H' ∧ Rep X.K (AvA G σ s.e none) H' x d := by
        rcases hx with ⟨e1, r⟩ | ⟨p, vs, l, e1, e2, e3, e4, r⟩
        · subst e1; exact ⟨R4, r⟩
        · subst e1; subst e3; subst e4
          exact ⟨R4.alloc e2, .tup (.inl ⟨.inl upd_same, R4.new e2⟩) (r.ch (Ch.new e2) fun b z => z)⟩
      cases ha : asg d s with
      | none => rw [ha] at q; exact q.elim
      | some s2 =>
        simp only [ha] at q
        refine hg.run G (src ++ bs) σ s.e s.w [] H' x d s2 _ it.1 it.2 ha fun σ2 R5 n5 _ => ⟨src ++ bs, s2, ⟨R5, n5 nl⟩, ?_⟩
        match hb2 : tb s2 with
        | some (.nx s3) => simp only [hb2] at q; exact fun σ' H2 R' => ⟨s3, R', q⟩
        | some (.ct s3) => simp only [hb2] at q; exact fun σ' H2 R' => ⟨s3, R', q⟩
        | some (.bk s3) => simp only [hb2] at q; exact fun σ' H2 R' => q σ' H2 ⟨R'.1.baseSub fun p hp => List.mem_append_right _ hp, R'.2⟩
        | some (.rt r s3) => simp only [hb2] at q; exact fun σ' v x H2 R' r' => q σ' v x H2 (R'.baseSub fun p hp => List.mem_append_right _ hp) r'
        | some (.exc ex w) => simp only [hb2] at q; exact q
        | none => simp only [hb2] at q; exact q.elim
    · have hz : ds.drop i = [] := List.drop_eq_nil_of_le (by omega)
      rw [hz] at q
      exact .inl ⟨ok.2 i (by omega), q σ H ⟨R4.baseSub fun p hp => List.mem_append_right _ hp, nl⟩⟩⟩

/-! ### while -/
def whileN (c : TTf) (body : TSf) : Nat → S → Option Fl
  | 0, _ => none
  | n + 1, s => tS (c s) fun b s => if b = true then (match body ⟨s.w, calmE s.e⟩ with
      | some (.nx s2) => whileN c body n s2
      | some (.ct s2) => whileN c body n s2
      | some (.bk s2) => some (.nx s2)
      | r => r) else some (.nx ⟨s.w, calmE s.e⟩)
theorem whileN_mono (c : TTf) (body : TSf) : ∀ (n m : Nat) (s : S) (r : Fl), whileN c body n s = some r → n ≤ m → whileN c body m s = some r
  | 0, _, _, _, h, _ => by cases h
  | n + 1, 0, _, _, _, h => absurd h (by omega)
  | n + 1, m + 1, s, r, h, hm => by
    unfold whileN at h ⊢
    cases hc : c s with
    | none => rw [hc] at h; cases h
    | some t =>
      rw [hc] at h
      cases t with
      | exc _ _ => exact h
      | tv b s1 =>
        simp only [tS_val] at h ⊢
        cases b with
        | false => exact h
        | true =>
          simp only [if_true] at h ⊢
          split at h
          · exact whileN_mono c body n m _ r h (by omega)
          · exact whileN_mono c body n m _ r h (by omega)
          · exact h
          · exact h
open Classical in
/-- the loop's end, if it ends -/
noncomputable def whileS (c : TTf) (body : TSf) : TSf := fun s => if h : ∃ n r, whileN c body n s = some r then some (Classical.choose (Classical.choose_spec h)) else none
theorem whileS_of {c : TTf} {body : TSf} {n : Nat} {s : S} {r : Fl} (h : whileN c body n s = some r) : whileS c body s = some r := by
  have hx : ∃ n r, whileN c body n s = some r := ⟨n, r, h⟩
  unfold whileS
  rw [dif_pos hx]
  have q := Classical.choose_spec (Classical.choose_spec hx)
  have a := whileN_mono c body _ (max n (Classical.choose hx)) s _ h (by omega)
  have b := whileN_mono c body _ (max n (Classical.choose hx)) s _ q (by omega)
  rw [a] at b
  rw [Option.some.inj b]
theorem whileS_ex {c : TTf} {body : TSf} {s : S} {r : Fl} (h : whileS c body s = some r) : ∃ n, whileN c body n s = some r := by
  unfold whileS at h
  by_cases hx : ∃ n r, whileN c body n s = some r
  · rw [dif_pos hx] at h
    exact ⟨_, by rw [← Option.some.inj h]; exact Classical.choose_spec (Classical.choose_spec hx)⟩
  · rw [dif_neg hx] at h; cases h
/-- one turn -/
theorem whileS_turn (c : TTf) (body : TSf) (s : S) : whileS c body s = tS (c s) fun b s => if b = true then (match body ⟨s.w, calmE s.e⟩ with
      | some (.nx s2) => whileS c body s2
      | some (.ct s2) => whileS c body s2
      | some (.bk s2) => some (.nx s2)
      | r => r) else some (.nx ⟨s.w, calmE s.e⟩) := by
  have go : ∀ (r : Fl), (tS (c s) fun b s => if b = true then (match body ⟨s.w, calmE s.e⟩ with
      | some (.nx s2) => whileS c body s2
      | some (.ct s2) => whileS c body s2
      | some (.bk s2) => some (.nx s2)
      | r => r) else some (.nx ⟨s.w, calmE s.e⟩)) = some r → whileS c body s = some r := fun r h => by
    cases hc : c s with
    | none => rw [hc] at h; cases h
    | some t =>
      rw [hc] at h
      cases t with
      | exc _ _ => exact whileS_of (n := 1) (by unfold whileN; rw [hc]; exact h)
      | tv b s1 =>
        simp only [tS_val] at h
        cases b with
        | false => exact whileS_of (n := 1) (by unfold whileN; rw [hc]; exact h)
        | true =>
          simp only [if_true] at h
          cases hb : body ⟨s1.w, calmE s1.e⟩ with
          | none => rw [hb] at h; cases h
          | some f =>
            rw [hb] at h
            cases f with
            | nx s2 =>
              obtain ⟨n, hn⟩ := whileS_ex h
              exact whileS_of (n := n + 1) (by unfold whileN; rw [hc]; simp only [tS_val, if_true, hb]; exact hn)
            | ct s2 =>
              obtain ⟨n, hn⟩ := whileS_ex h
              exact whileS_of (n := n + 1) (by unfold whileN; rw [hc]; simp only [tS_val, if_true, hb]; exact hn)
            | bk s2 => exact whileS_of (n := 1) (by unfold whileN; rw [hc]; simp only [tS_val, if_true, hb]; exact h)
            | rt r2 s2 => exact whileS_of (n := 1) (by unfold whileN; rw [hc]; simp only [tS_val, if_true, hb]; exact h)
            | exc x w => exact whileS_of (n := 1) (by unfold whileN; rw [hc]; simp only [tS_val, if_true, hb]; exact h)
  cases hw : whileS c body s with
  | some r =>
    obtain ⟨n, hn⟩ := whileS_ex hw
    cases n with
    | zero => cases hn
    | succ n =>
      unfold whileN at hn
      symm
      cases hc : c s with
      | none => rw [hc] at hn; cases hn
      | some t =>
        rw [hc] at hn
        cases t with
        | exc _ _ => exact hn
        | tv b s1 =>
          simp only [tS_val] at hn ⊢
          cases b with
          | false => exact hn
          | true =>
            simp only [if_true] at hn ⊢
            cases hb : body ⟨s1.w, calmE s1.e⟩ with
            | none => rw [hb] at hn; cases hn
            | some f =>
              rw [hb] at hn
              cases f with
              | nx s2 => exact whileS_of hn
              | ct s2 => exact whileS_of hn
              | bk s2 => exact hn
              | rt r2 s2 => exact hn
              | exc x w => exact hn
  | none =>
    symm
    cases hr : (tS (c s) fun b s => if b = true then (match body ⟨s.w, calmE s.e⟩ with
      | some (.nx s2) => whileS c body s2
      | some (.ct s2) => whileS c body s2
      | some (.bk s2) => some (.nx s2)
      | r => r) else some (.nx ⟨s.w, calmE s.e⟩)) with
    | none => rfl
    | some r => rw [go r hr] at hw; cases hw
theorem ds_while {c : Expr} {body : List Stmt} {tc : TTf} {tb : TSf} {pos : Pos} (hp : PassesOwn (model X.prog X.w) X.A X.env X.xe) (hc : DT X E c tc) (hb : DSs X E body tb) : DS X E (.While c body [] pos) (whileS tc tb) :=
  ⟨fun G bs => (ps_while hp (hc.run G bs) (hb.run G bs)).imp fun D σ H ⟨s, R, q⟩ => by
    have hx : ∃ r, whileS tc tb s = some r := by
      cases h : whileS tc tb s with
      | none => rw [h] at q; exact q.elim
      | some r => exact ⟨r, rfl⟩
    obtain ⟨r, hr⟩ := hx
    rw [hr] at q
    obtain ⟨n, hn⟩ := whileS_ex hr
    refine ⟨fun m σ H => ∃ s, SR0 X.K G bs σ s H ∧ whileN tc tb m s = some r, ⟨n, s, R, hn⟩, fun m σ H ⟨s, R, hn⟩ => ?_⟩
    cases m with
    | zero => cases hn
    | succ m =>
      unfold whileN at hn
      refine ⟨s.e, s.w, [], R.1, ?_⟩
      cases hc : tc s with
      | none => rw [hc] at hn; cases hn
      | some t =>
        rw [hc] at hn
        cases t with
        | exc x w =>
          cases hn
          exact q
        | tv b s1 =>
          intro H' R'
          simp only [tS_val] at hn
          cases b with
          | false =>
            simp only [Bool.false_eq_true, if_false] at hn ⊢
            cases hn
            exact q σ H' R'.calm
          | true =>
            simp only [if_true] at hn ⊢
            refine ⟨fun σ' H' => ∃ s, SR0 X.K G bs σ' s H' ∧ whileN tc tb m s = some r, fun σ' H' ⟨s, R, h⟩ => ⟨m, by omega, s, R, h⟩, ⟨s1.w, calmE s1.e⟩, R'.calm, ?_⟩
            cases hb : tb ⟨s1.w, calmE s1.e⟩ with
            | none => rw [hb] at hn; cases hn
            | some f =>
              rw [hb] at hn
              cases f with
              | nx s2 => exact fun σ' H2 R2 => ⟨s2, R2, hn⟩
              | ct s2 => exact fun σ' H2 R2 => ⟨s2, R2, hn⟩
              | bk s2 => cases hn; exact q
              | rt r2 s2 => cases hn; exact q
              | exc x w => cases hn; exact q⟩
end
end DL

end

section -- DL6
set_option Elab.async false
set_option linter.all false
set_option maxRecDepth 100000
set_option maxHeartbeats 2000000
/-! DL6: list comprehensions, append, pop. -/
namespace DL
open PySem PySem.Spec L2

/-! ### slots forgotten -/
@[simp] def wipeE (e : List Sl) : List Nat → List Sl
  | [] => e
  | v :: vs => (wipeE e vs).set v .no
theorem wipeE_length (e : List Sl) : ∀ vs : List Nat, (wipeE e vs).length = e.length
  | [] => rfl
  | v :: vs => by unfold wipeE; rw [List.length_set, wipeE_length e vs]
theorem wipeE_get {e : List Sl} {i : Nat} {s : Sl} : ∀ {vs : List Nat}, (wipeE e vs)[i]? = some s → s = .no ∨ (e[i]? = some s ∧ i ∉ vs)
  | [], h => .inr ⟨h, by simp⟩
  | v :: vs, h => by
    unfold wipeE at h
    by_cases hi : v = i
    · subst hi
      by_cases hv : v < (wipeE e vs).length
      · rw [List.getElem?_set_self hv] at h; cases h; exact .inl rfl
      · rw [List.getElem?_eq_none (by simpa using hv)] at h; cases h
    · rw [List.getElem?_set_ne hi] at h
      rcases wipeE_get h with h1 | ⟨h1, h2⟩
      · exact .inl h1
      · exact .inr ⟨h1, by simp only [List.mem_cons, not_or]; exact ⟨fun z => hi z.symm, h2⟩⟩
theorem wipe_get_ne {σ : St} {i : Nat} : ∀ {vs : List Nat}, i ∉ vs → (wipe σ vs)[i]? = σ[i]?
  | [], _ => rfl
  | v :: vs, h => by
    have h1 : v ≠ i := fun z => h (by rw [z]; exact List.mem_cons_self)
    unfold wipe
    rw [List.getElem?_set_ne h1, wipe_get_ne fun z => h (List.mem_cons_of_mem _ z)]
theorem wipe_none {σ : St} {i : Nat} : ∀ {vs : List Nat}, i ∈ vs → i < σ.length → (wipe σ vs)[i]? = some none
  | v :: vs, h, hl => by
    unfold wipe
    by_cases e : v = i
    · subst e; rw [List.getElem?_set_self (by rw [wipe_length]; exact hl)]
    · rw [List.getElem?_set_ne e]
      exact wipe_none (by
        rcases List.mem_cons.mp h with z | z
        · exact absurd z.symm e
        · exact z) hl
theorem wipe_idem {σ : St} (vs : List Nat) : wipe (wipe σ vs) vs = wipe σ vs := by
  apply List.ext_getElem?
  intro i
  by_cases h : i ∈ vs
  · by_cases hl : i < σ.length
    · rw [wipe_none h (by rw [wipe_length]; exact hl), wipe_none h hl]
    · rw [List.getElem?_eq_none (by rw [wipe_length, wipe_length]; omega), List.getElem?_eq_none (by rw [wipe_length]; omega)]
  · rw [wipe_get_ne h]
theorem wipeE_no {e : List Sl} {i : Nat} : ∀ {vs : List Nat}, i ∈ vs → i < e.length → (wipeE e vs)[i]? = some .no
  | v :: vs, h, hl => by
    unfold wipeE
    by_cases z : v = i
    · subst z; rw [List.getElem?_set_self (by rw [wipeE_length]; exact hl)]
    · rw [List.getElem?_set_ne z]
      exact wipeE_no (by
        rcases List.mem_cons.mp h with y | y
        · exact absurd y.symm z
        · exact y) hl
theorem wipeE_ne {e : List Sl} {i : Nat} : ∀ {vs : List Nat}, i ∉ vs → (wipeE e vs)[i]? = e[i]?
  | [], _ => rfl
  | v :: vs, h => by
    have h1 : v ≠ i := fun z => h (by rw [z]; exact List.mem_cons_self)
    unfold wipeE
    rw [List.getElem?_set_ne h1, wipeE_ne fun z => h (List.mem_cons_of_mem _ z)]
theorem wipeE_idem {e : List Sl} (vs : List Nat) : wipeE (wipeE e vs) vs = wipeE e vs := by
  apply List.ext_getElem?
  intro i
  by_cases h : i ∈ vs
  · by_cases hl : i < e.length
    · rw [wipeE_no h (by rw [wipeE_length]; exact hl), wipeE_no h hl]
    · rw [List.getElem?_eq_none (by rw [wipeE_length, wipeE_length]; omega), List.getElem?_eq_none (by rw [wipeE_length]; omega)]
  · rw [wipeE_ne h]
/-- two rows of values that differ at forgotten slots alone -/
theorem SRep.wipeTo {K : PySem.W.Frag} {G : GC} {bs : Bs} {σ σ' : St} {e : List Sl} {w : W} {pd : Pd} {x : Option Addr} {H : Hp} (vs : List Nat) (R : SRep K G bs σ e w pd x H) (hw : wipe σ' vs = wipe σ vs) : SRep K G bs σ' (wipeE e vs) w pd x H := by
  have hl : σ'.length = σ.length := by rw [← wipe_length σ' vs, hw, wipe_length]
  have hs : ∀ i, i ∉ vs → σ'[i]? = σ[i]? := fun i h => by rw [← wipe_get_ne h, hw, wipe_get_ne h]
  have at_ : ∀ (i : Nat) d, ((wipeE e vs)[i]? = some (.own d) ∨ (wipeE e vs)[i]? = some (.lck d)) → i ∉ vs ∧ (e[i]? = some (.own d) ∨ e[i]? = some (.lck d)) := fun i d h => by
    rcases h with h | h
    · rcases wipeE_get h with z | ⟨h1, h2⟩
      · cases z
      · exact ⟨h2, .inl h1⟩
    · rcases wipeE_get h with z | ⟨h1, h2⟩
      · cases z
      · exact ⟨h2, .inr h1⟩
  have ow : ∀ b, OwnS σ' (wipeE e vs) b → OwnS σ e b := fun b ⟨i, d, h1, h2⟩ => by
    obtain ⟨n, q⟩ := at_ i d h1
    exact ⟨i, d, q, by rw [← hs i n]; exact h2⟩
  have o1 : ∀ b, Own1 σ' (wipeE e vs) b → Own1 σ e b := fun b ⟨i, d, h1, h2⟩ => by
    rcases wipeE_get h1 with z | ⟨h3, n⟩
    · cases z
    · exact ⟨i, d, h3, by rw [← hs i n]; exact h2⟩
  have qA : ∀ b, AvA G σ' (wipeE e vs) x b → AvA G σ e x b := fun b z => by
    rcases z with z | z | z | z
    · exact .inl z
    · exact .inr (.inl z)
    · exact .inr (.inr (.inl (ow b z)))
    · exact .inr (.inr (.inr z))
  have qP : ∀ b, AvP G σ' (wipeE e vs) x b → AvP G σ e x b := fun b z => by
    rcases z with z | z | z | z
    · exact .inl z
    · exact .inr (.inl z)
    · exact .inr (.inr (.inl (o1 b z)))
    · exact .inr (.inr (.inr z))
  refine ⟨by rw [wipeE_length, hl]; exact R.len, R.ext, R.dom, R.drd, R.wr, fun i sl ov h1 h2 => ?_, fun i j d d' a hi hj h1 h2 => ?_, fun p hp => (R.pend p hp).imp fun _ _ z => z.av qP, fun p hp => (R.base p hp).av qA, fun a ha => ?_⟩
  · rcases wipeE_get h1 with z | ⟨h3, n⟩
    · subst z; exact True.intro
    · rw [hs i n] at h2
      exact (R.slot i sl ov h3 h2).imp (fun _ _ z => z.av qA) fun _ _ _ _ z => z.av qA
  · obtain ⟨n1, q1⟩ := at_ i d hi
    obtain ⟨n2, q2⟩ := at_ j d' hj
    rw [hs i n1] at h1
    rw [hs j n2] at h2
    exact R.inj i j d d' a q1 q2 h1 h2
  · obtain ⟨f1, f2, f3⟩ := R.fr a ha
    exact ⟨f1, fun z => f2 (ow a z), f3⟩
/-- the new list that is being filled is changed -/
theorem SRep.mutX {K : PySem.W.Frag} {G : GC} {bs : Bs} {σ : St} {e : List Sl} {w : W} {pd : Pd} {a : Addr} {H : Hp} {o : HO} (R : SRep K G bs σ e w pd (some a) H) (hbx : Box H a) : SRep K G bs σ e w pd (some a) (upd H a o) := by
  obtain ⟨f1, f2, f3⟩ := R.fr a rfl
  have nd := R.own_nodr f1
  have c : Ch (fun b => b = a) H (upd H a o) := fun b u hb q => by rw [upd_ne hb]; exact q
  have sA : ∀ b, b = a → AvA G σ e (some a) b := fun b z => by rw [z]; exact .inr (.inr (.inr rfl))
  have sP : ∀ b, b = a → AvP G σ e (some a) b := fun b z => by rw [z]; exact .inr (.inr (.inr rfl))
  refine ⟨R.len, fun b u h1 h2 => ?_, R.dom, R.drd, ⟨R.wr.1, fun r hr => ?_⟩, fun i sl ov h1 h2 => ?_, R.inj, fun p hp => (R.pend p hp).imp fun _ _ z => z.ch c sP, fun p hp => (R.base p hp).ch c sA, fun b hb => ?_⟩
  · have hb : b ≠ a := fun z => by rw [z, f1] at h2; cases h2
    rw [upd_ne hb]; exact R.ext b u h1 h2
  · obtain ⟨w1, w2, w3, w4, w5⟩ := R.wr.2 r hr
    have q : ∀ b, (b = r.d ∨ b = r.l ∨ b = r.c ∨ ∃ p ∈ r.T, b = p.1) → b ≠ a := fun b h z => nd ⟨r, hr, z ▸ h⟩
    exact ⟨by rw [upd_ne (q _ (.inl rfl))]; exact w1, by rw [upd_ne (q _ (.inr (.inl rfl)))]; exact w2, by rw [upd_ne (q _ (.inr (.inr (.inl rfl))))]; exact w3, w4, tabs_mut w5 hbx⟩
  · have s := R.slot i sl ov h1 h2
    cases sl with
    | no => exact True.intro
    | dr => exact s
    | sh d => obtain ⟨v, e1, r⟩ := s; exact ⟨v, e1, r.ch c sA⟩
    | own d =>
      obtain ⟨b, e1, r, n⟩ := s
      exact ⟨b, e1, r.ch c sA (fun z => f2 (z ▸ ⟨i, d, .inl h1, by rw [h2, e1]⟩)), n⟩
    | lck d =>
      obtain ⟨b, e1, r, n⟩ := s
      exact ⟨b, e1, r.ch c sA (fun z => f2 (z ▸ ⟨i, d, .inr h1, by rw [h2, e1]⟩)), n⟩
  · cases hb
    exact ⟨f1, f2, by rw [upd_same]; simp⟩
@[simp] def noLck : List Sl → Bool
  | [] => true
  | .lck _ :: _ => false
  | _ :: r => noLck r
theorem noLck_of {e : List Sl} (h : noLck e = true) : NoL e := fun i d hi => by
  induction e generalizing i with
  | nil => simp at hi
  | cons s r ih =>
    cases i with
    | zero =>
      rw [List.getElem?_cons_zero] at hi
      cases hi
      cases h
    | succ i =>
      rw [List.getElem?_cons_succ] at hi
      cases s <;> first
        | cases h; done
        | exact ih (by simpa [noLck] using h) i hi

/-! ### comprehensions -/
inductive RL where
  | done (acc : List D) (s : S)
/-- the turns -/
def lcS (asg : TGf) (tt : TTf) (te : TEf) (vs : List Nat) : List D → List D → S → Option RL
  | [], acc, s => some (.done acc s)
  | d :: ds, acc, s => if (d.imm || noLck s.e) = true then match asg d s with
    | none => none
    | some s1 => match tt s1 with
      | some (.tv true s2) => match te s2 with
        | some (.val r s3) => match r.dat with
          | some y => if acc.length < 16777216 then lcS asg tt te vs ds (acc ++ [y]) ⟨s3.w, wipeE s3.e vs⟩ else none
          | none => none
        | _ => none
      | some (.tv false s2) => lcS asg tt te vs ds acc ⟨s2.w, wipeE s2.e vs⟩
      | _ => none
    else none
@[simp] def dLc (ti : TIf) (asg : TGf) (tt : TTf) (te : TEf) (vs : List Nat) : TEf := fun s => iE (ti s) fun ds s => match lcS asg tt te vs ds [] ⟨s.w, wipeE s.e vs⟩ with
  | some (.done acc s') => some (.val (.own (.lst acc)) s')
  | none => none
structure DTs (X : Cx) (E : XK) (ifs : List Expr) (t : TTf) : Prop where
  run : ∀ G bs, PTs X ifs (liftT X.K G bs E t)
@[simp] def dYes : TTf := fun s => some (.tv true s)
section
variable {X : Cx} {E : XK}
theorem dts_nil : DTs X E [] dYes := ⟨fun G bs => ⟨fun pins s σ H Q I ⟨e, w, pd, R, q⟩ => pts_nil.run pins s σ H Q I (q _ R)⟩⟩
theorem dts_one {c : Expr} {t : TTf} (h : DT X E c t) : DTs X E [c] t := ⟨fun G bs => pts_one (h.run G bs)⟩
theorem LI.firstE {K : PySem.W.Frag} {G : GC} {bs : Bs} {σ : St} {pd : Pd} {Q : VK} {o : Option RI} {k : List D → S → Option RE} {R' : It → Hp → Prop} (h : LQ K G bs E σ pd Q (iE o k))
    (hk : ∀ ds s, LQ K G bs E σ pd Q (k ds s) → ∀ J H' src, SRep K G bs σ s.e s.w (pdOf src ++ pd) none H' → ItOk K J src ds → R' J H') : LI K G bs E σ pd R' o := by
  match o with
  | some (.it ds c s) => exact fun J H' src R ok _ => hk ds s h J H' src R ok
  | some (.exc _ _) => exact h
  | none => exact h.elim
abbrev pAll (vs : List V) (ds : List D) : Pd := vs.zip (ds.map Sl.sh)
theorem pAll_rep {K : PySem.W.Frag} {G : GC} {Av : AS} {H : Hp} : ∀ {vs : List V} {ds : List D}, vs.length = ds.length → (∀ p ∈ pAll vs ds, PRep K G Av H p.1 p.2) → RepAll K Av H vs ds
  | [], [], _, _ => .nil
  | v :: vs, d :: ds, hl, h => .cons (h (v, .sh d) (by unfold pAll; rw [List.map_cons, List.zip_cons_cons]; exact List.mem_cons_self)) (pAll_rep (by simpa using hl) fun p hp => h p (by unfold pAll; rw [List.map_cons, List.zip_cons_cons]; exact List.mem_cons_of_mem _ hp))
  | [], _ :: _, hl, _ => by simp at hl
  | _ :: _, [], hl, _ => by simp at hl
/-- the turns, by the machine's rule -/
theorem lift_lc {bs : Bs} {G : GC} {ti : TIf} {asg : TGf} {tt : TTf} {te : TEf} {vs : List Nat} {g : TG} {σ : St} {H : Hp} {Q : VK}
    (hg : ∀ (G : GC) (bs : Bs) (σ : St) (e : List Sl) (w : W) (pd : Pd) (H : Hp) (v : V) (d : D) (s' : S) (Q : St → Hp → Prop), SRep X.K G bs σ e w pd none H → Rep X.K (AvA G σ e none) H v d → asg d ⟨w, e⟩ = some s' →
      (∀ σ', SRep X.K G bs σ' s'.e s'.w pd none H → (NoL e → NoL s'.e) → wipe σ' vs = wipe σ vs → Q σ' H) → g v σ H Q)
    (h : lift X.K G bs E (dLc ti asg tt te vs) σ H Q) :
    tLc (liftI X.K G bs E ti) g (fun σ H Q => ∃ G', liftT X.K G' bs (fun _ _ _ => False) tt σ H Q) (fun σ H Q => ∃ G', lift X.K G' bs (fun _ _ _ => False) te σ H Q) vs σ H Q := by
  obtain ⟨e, w, pd, R, h⟩ := h
  refine ⟨e, w, pd, R, LI.firstE h fun ds s h J H1 src R1 ok p np => ?_⟩
  have hx : ∃ acc s', lcS asg tt te vs ds [] ⟨s.w, wipeE s.e vs⟩ = some (.done acc s') := by
    cases q : lcS asg tt te vs ds [] ⟨s.w, wipeE s.e vs⟩ with
    | none => rw [q] at h; exact h.elim
    | some r => cases r with
      | done acc s' => exact ⟨acc, s', rfl⟩
  obtain ⟨fin, sf, hf⟩ := hx
  rw [hf] at h
  have R2 : SRep X.K G bs σ (wipeE s.e vs) s.w (pdOf src ++ pd) (some p) (upd H1 p (.lst [])) := (R1.wipeTo vs rfl).allocX np
  refine ⟨fun i m H => i + m = ds.length ∧ ∃ s us acc, us.length = acc.length ∧ H p = some (.lst us) ∧ SRep X.K G bs (wipe σ vs) s.e s.w (pAll us acc ++ (pdOf src ++ pd)) (some p) H ∧ wipeE s.e vs = s.e ∧ lcS asg tt te vs (ds.drop i) acc s = some (.done fin sf),
    ⟨ds.length, by omega, ⟨s.w, wipeE s.e vs⟩, [], [], rfl, upd_same, ?_, ?_, hf⟩, fun i m H ⟨him, s, us, acc, hl, hp, R3, we, hr⟩ => ?_⟩
  · have := R2.wipeTo (σ' := wipe σ vs) vs (wipe_idem vs)
    rw [wipeE_idem] at this
    exact this
  · exact wipeE_idem vs
  · have ok3 := ok (AvP G (wipe σ vs) s.e (some p)) H fun q hq => R3.pend (q.1, .sh q.2) (List.mem_append_right _ (List.mem_append_left _ (List.mem_map.mpr ⟨q, hq, rfl⟩)))
    by_cases hi : i < ds.length
    · refine .inr ⟨(ok3.1 i hi).1, fun H => ∃ s us acc, us.length = acc.length ∧ H p = some (.lst us) ∧ SRep X.K G bs (wipe σ vs) s.e s.w (pAll us acc ++ (pdOf src ++ pd)) (some p) H ∧ wipeE s.e vs = s.e ∧ lcS asg tt te vs (ds.drop (i + 1)) acc s = some (.done fin sf), fun H' z => ⟨m - 1, by omega, by omega, z⟩, fun x H' y => ?_⟩
      obtain ⟨d, hd, hxx⟩ := (ok3.1 i hi).2 x H' y
      rw [List.drop_eq_getElem_cons hi] at hr
      have ed : ds[i] = d := by rw [List.getElem?_eq_getElem hi] at hd; exact Option.some.inj hd
      rw [ed] at hr
      unfold lcS at hr
      have it : SRep X.K G bs (wipe σ vs) s.e s.w (pAll us acc ++ (pdOf src ++ pd)) (some p) H' ∧ Rep X.K (AvP G (wipe σ vs) s.e (some p)) H' x d ∧ H' p = some (.lst us) := by
        rcases hxx with ⟨e1, r⟩ | ⟨q, ws, l, e1, e2, e3, e4, r⟩
        · subst e1; exact ⟨R3, r, hp⟩
        · subst e1; subst e3; subst e4
          have nq : ¬ AvA G (wipe σ vs) s.e (some p) q := R3.new e2
          exact ⟨R3.alloc e2, .tup (.inl ⟨.inl upd_same, fun z => nq z.to⟩) (r.ch (Ch.new e2) fun b z => z), by rw [upd_ne (ne_of_none hp e2)]; exact hp⟩
      obtain ⟨R4, r4, hp4⟩ := it
      by_cases hc : (d.imm || noLck s.e) = true
      · rw [if_pos hc] at hr
        obtain ⟨f1, f2, f3⟩ := R4.fr p rfl
        have R5 := R4.hide (.inl ⟨_, hp4⟩)
        have r5 : Rep X.K (AvA (G.hide H' p) (wipe σ vs) s.e none) H' x d := by
          rcases (by simpa using hc : d.imm = true ∨ noLck s.e = true) with z | z
          · refine r4.immAv (fun b y => ?_) z
            rcases hide_av.mp y with y | y | y | y
            · exact .inl (.inl y)
            · exact .inl (.inr (.inl y))
            · exact .inr (R4.own_at y).2.1
            · exact .inl (.inr (.inr (.inr y)))
          · refine r4.av fun b y => ?_
            rcases hide_av.mp y with y | y | y | y
            · exact .inl y
            · exact .inr (.inl y)
            · exact .inr (.inr (.inl ((noLck_of z).ownS y)))
            · exact .inr (.inr (.inr y))
        cases ha : asg d s with
        | none => rw [ha] at hr; cases hr
        | some s1 =>
          simp only [ha] at hr
          refine hg (G.hide H' p) bs (wipe σ vs) s.e s.w _ H' x d s1 _ R5 r5 ha fun σ2 R6 _ hw => ⟨?_, ?_⟩
          · rw [hw, wipe_idem]
          · have back : ∀ {e3 : List Sl} {w3 : W} {pd3 : Pd} {H3 : Hp}, SRep X.K (G.hide H' p) bs σ2 e3 w3 pd3 none H3 → SRep X.K G bs (wipe σ vs) (wipeE e3 vs) w3 pd3 (some p) H3 ∧ H3 p = some (.lst us) := fun {e3 w3 pd3 H3} R' => by
              obtain ⟨z1, z2⟩ := R'.unhide R4.dom R4.drd f1 f3
              exact ⟨z1.wipeTo vs hw.symm, z2.trans hp4⟩
            refine ⟨G.hide H' p, s1.e, s1.w, _, R6, ?_⟩
            cases ht : tt s1 with
            | none => rw [ht] at hr; cases hr
            | some rt =>
              rw [ht] at hr
              cases rt with
              | exc _ _ => cases hr
              | tv b s2 =>
                intro H2 R7
                cases b with
                | false =>
                  simp only at hr
                  simp only [Bool.false_eq_true, if_false]
                  obtain ⟨z1, z2⟩ := back R7
                  exact ⟨⟨s2.w, wipeE s2.e vs⟩, us, acc, hl, z2, z1, wipeE_idem vs, hr⟩
                | true =>
                  simp only at hr
                  simp only [if_true]
                  refine ⟨G.hide H' p, s2.e, s2.w, _, R7, ?_⟩
                  cases hte : te s2 with
                  | none => rw [hte] at hr; cases hr
                  | some re =>
                    rw [hte] at hr
                    cases re with
                    | exc _ _ => cases hr
                    | val r s3 =>
                      intro v x3 H3 R8 r8
                      simp only at hr
                      cases hd : r.dat with
                      | none => rw [hd] at hr; cases hr
                      | some y =>
                        simp only [hd] at hr
                        by_cases hz : acc.length < 16777216
                        · rw [if_pos hz] at hr
                          have R9 := R8.push r8
                          rw [weak_of_dat hd] at R9
                          obtain ⟨z1, z2⟩ := back R9
                          refine ⟨us, z2, by rw [hl]; exact Nat.lt_of_lt_of_eq hz sizeLine_eq.symm, ⟨s3.w, wipeE s3.e vs⟩, us ++ [v], acc ++ [y], by simp [hl], upd_same, ?_, wipeE_idem vs, hr⟩
                          refine (z1.mutX (.inl ⟨_, z2⟩)).pds fun q hq => ?_
                          rcases List.mem_append.mp hq with hq | hq
                          · have ez : pAll (us ++ [v]) (acc ++ [y]) = pAll us acc ++ [(v, .sh y)] := by
                              unfold pAll
                              rw [List.map_append, List.zip_append (by simp [hl])]
                              rfl
                            rw [ez] at hq
                            rcases List.mem_append.mp hq with hq | hq
                            · exact List.mem_cons_of_mem _ (List.mem_append_left _ hq)
                            · rw [List.mem_singleton.mp hq]; exact List.mem_cons_self
                          · exact List.mem_cons_of_mem _ (List.mem_append_right _ hq)
                        · rw [if_neg hz] at hr; cases hr
      · rw [if_neg hc] at hr; cases hr
    · have hz : ds.drop i = [] := List.drop_eq_nil_of_le (by omega)
      rw [hz] at hr
      unfold lcS at hr
      have R4 : SRep X.K G bs σ s.e s.w (pAll us acc ++ (pdOf src ++ pd)) (some p) H := by
        have := R3.wipeTo (σ' := σ) vs (wipe_idem vs).symm
        rw [we] at this
        exact this
      cases hr
      refine .inl ⟨ok3.2 i (by omega), ?_⟩
      refine h _ (some p) H (R4.pds fun q hq => List.mem_append_right _ (List.mem_append_right _ hq)) ⟨p, rfl, rfl, us, hp, ?_⟩
      exact pAll_rep hl fun q hq => R4.pend q (List.mem_append_left _ hq)
end
end DL

end

section -- DL7
set_option Elab.async false
set_option linter.all false
set_option maxRecDepth 100000
set_option maxHeartbeats 2000000
/-! DL7: comprehensions as rules, append, pop, a def's promise, calls. -/
namespace DL
open PySem PySem.Spec L2
open PyProof.Rows (envOfC)
section
variable {X : Cx} {E : XK}
/-- [elt for tg in iter if ..] as a value -/
theorem de_lc {elt tg iter : Expr} {ifs : List Expr} {scope : Scope} {own : List (Str × Nat)} {pos : Pos} {ti : TIf} {asg : TGf} {g : TG} {tt : TTf} {te : TEf} (hc : X.calm = true) (hN : X.N.Nodup) (hi : DI X E tg iter ti) (ok : BlkOk X.N X.env.scope scope own)
    (hg : ∀ (s : Shared) (H : Hp) (C : Addr) (cl : List (Str × Addr)) (fp : List Addr), DG (X.blk s H scope (compEnvC scope cl C X.env) fp) tg asg (own.map (·.2)) g) (ht : ∀ (s : Shared) (H : Hp) (C : Addr) (cl : List (Str × Addr)) (fp : List Addr), DTs (X.blk s H scope (compEnvC scope cl C X.env) fp) (fun _ _ _ => False) ifs tt)
    (he : ∀ (s : Shared) (H : Hp) (C : Addr) (cl : List (Str × Addr)) (fp : List Addr), DE (X.blk s H scope (compEnvC scope cl C X.env) fp) (fun _ _ _ => False) elt te) (hs : ∀ x, foldedSetIterable iter X.env x = pure x := by intro _; rfl) :
    DE X E (.ListComp elt [⟨tg, iter, ifs, 0⟩] scope pos) (dLc ti asg tt te (own.map (·.2))) :=
  ⟨fun G bs => ⟨fun pins s0 σ0 H0 Q0 I0 h0 => (pe_lc hc hN (hi.run G bs) ok (fun s H C cl fp => (hg s H C cl fp).pg)
    (fun s H C cl fp => (⟨fun pins s1 σ H1 Q I ⟨G', z⟩ => ((ht s H C cl fp).run G' bs).run pins s1 σ H1 Q I z⟩ : PTs _ ifs fun σ H Q => ∃ G', liftT X.K G' bs (fun _ _ _ => False) tt σ H Q))
    (fun s H C cl fp => (⟨fun pins s1 σ H1 Q I ⟨G', z⟩ => ((he s H C cl fp).run G' bs).run pins s1 σ H1 Q I z⟩ : PE _ elt fun σ H Q => ∃ G', lift X.K G' bs (fun _ _ _ => False) te σ H Q)) hs).run pins s0 σ0 H0 Q0 I0 (lift_lc (X := X) (fun G bs σ e w pd H v d s' Q => (hg s0 H0 0 [] []).run G bs σ e w pd H v d s' Q) h0)⟩⟩
/-- name = [..] on one line -/
theorem ds_setLc {i : Nat} {y : Str} {py : Pos} {elt tg iter : Expr} {ifs : List Expr} {scope : Scope} {own : List (Str × Nat)} {pos spos : Pos} {ti : TIf} {asg : TGf} {g : TG} {tt : TTf} {te : TEf} (hc : X.calm = true) (hN : X.N.Nodup) (hy : X.N[i]? = some y) (hyl : X.env.scope.names.lookup y = some .local)
    (hsw : swapsWith (.ListComp elt [⟨tg, iter, ifs, 0⟩] scope pos) (some (.Name y py)) spos.line X.env = pure true) (hi : DI X E tg iter ti) (ok : BlkOk X.N X.env.scope scope own)
    (hg : ∀ (s : Shared) (H : Hp) (C : Addr) (cl : List (Str × Addr)) (fp : List Addr), DG (X.blk s H scope (compEnvC scope cl C X.env) fp) tg asg (own.map (·.2)) g) (ht : ∀ (s : Shared) (H : Hp) (C : Addr) (cl : List (Str × Addr)) (fp : List Addr), DTs (X.blk s H scope (compEnvC scope cl C X.env) fp) (fun _ _ _ => False) ifs tt)
    (he : ∀ (s : Shared) (H : Hp) (C : Addr) (cl : List (Str × Addr)) (fp : List Addr), DE (X.blk s H scope (compEnvC scope cl C X.env) fp) (fun _ _ _ => False) elt te) (hs : ∀ x, foldedSetIterable iter X.env x = pure x := by intro _; rfl) :
    DS X E (.Assign [.Name y py] (.ListComp elt [⟨tg, iter, ifs, 0⟩] scope pos) spos) (dSet i (dLc ti asg tt te (own.map (·.2)))) :=
  ⟨fun G bs => ⟨fun pins s0 σ H D I0 ⟨s, R, q⟩ => (ps_setLc hc hN hy hyl hsw (hi.run G bs) ok (fun s H C cl fp => (hg s H C cl fp).pg)
    (fun s H C cl fp => (⟨fun pins s1 σ H1 Q I ⟨G', z⟩ => ((ht s H C cl fp).run G' bs).run pins s1 σ H1 Q I z⟩ : PTs _ ifs fun σ H Q => ∃ G', liftT X.K G' bs (fun _ _ _ => False) tt σ H Q))
    (fun s H C cl fp => (⟨fun pins s1 σ H1 Q I ⟨G', z⟩ => ((he s H C cl fp).run G' bs).run pins s1 σ H1 Q I z⟩ : PE _ elt fun σ H Q => ∃ G', lift X.K G' bs (fun _ _ _ => False) te σ H Q)) hs).run pins s0 σ H D I0 (lift_lc (X := X) (E := E) (Q := fun x H1 => D.nx (σ.set i (some x)) H1) (fun G bs σ e w pd H v d s' Q => (hg s0 H 0 [] []).run G bs σ e w pd H v d s' Q) ⟨s.e, s.w, [], R.1, q.first fun r s q v x H' R' r' => by
      by_cases hl : i < s.e.length
      · rw [if_pos hl] at q
        obtain ⟨R2, r2⟩ := R'.settle r'
        exact q _ H' (R2.store settle_nol r2 (by rw [settle_length]; exact hl))
      · rw [if_neg hl] at q; exact q.elim⟩)⟩⟩

/-! ### lists that are owned: append, pop -/
/-- name.append(e) -/
@[simp] def dApp (i : Nat) (t : TEf) : TSf := fun s => match s.e[i]? with
  | some (.own (.lst _)) => eS (t s) fun r s => match (settle r s.e)[i]?, r.dat with
    | some (.own (.lst l)), some d => if l.length < 16777216 then some (.nx ⟨s.w, (settle r s.e).set i (.own (.lst (l ++ [d])))⟩) else none
    | _, _ => none
  | _ => none
theorem SRep.appd {K : PySem.W.Frag} {G : GC} {bs : Bs} {σ : St} {e : List Sl} {w : W} {H : Hp} {i : Nat} {l : List D} {v : V} {d : D} {a : Addr} {xs : List V} (R : SRep K G bs σ e w [(v, .sh d)] none H) (n : NoL e) (hi : e[i]? = some (.own (.lst l))) (ha : σ[i]? = some (some (.ref a))) (hx : H a = some (.lst xs)) :
    SRep K G bs σ (e.set i (.own (.lst (l ++ [d])))) w [] none (upd H a (.lst (xs ++ [v]))) ∧ NoL (e.set i (.own (.lst (l ++ [d])))) := by
  obtain ⟨b, e1, o, nn⟩ := R.ownV (.inl hi)
  rw [ha] at e1
  cases e1
  obtain ⟨ys, e2, r⟩ := o
  rw [hx] at e2
  cases e2
  have c : Ch (fun b => b = a) H (upd H a (.lst (xs ++ [v]))) := fun b u hb q => by rw [upd_ne hb]; exact q
  have hs : ∀ b, b = a → AvA G σ e none b := fun b z => by rw [z]; exact .inr (.inr (.inl ⟨i, _, .inl hi, ha⟩))
  have rv : Rep K (AvA G σ e none) H v d := R.topD.av fun b z => by
    rcases z with z | z | z | z
    · exact .inl z
    · exact .inr (.inl z)
    · exact .inr (.inr (.inl (n.ownS z)))
    · cases z
  exact R.pop.mut n hi ha nn ⟨xs ++ [v], upd_same, (r.app (.cons rv .nil)).ch c hs⟩
theorem ds_append {i : Nat} {x : Str} {e : Expr} {t : TEf} {p1 apos cpos pos : Pos} (hN : X.N[i]? = some x := by rfl) (hv : Vis X.env.scope x := by first | exact Or.inl rfl | exact Or.inr (Or.inl rfl) | exact Or.inr (Or.inr rfl)) (he : DE X E e t)
    (hd : (x == ("__debug__" : Str)) = false := by decide) (hcd : (x == ("__classdict__" : Str)) = false := by decide)
    (hbase : attributeBase (.Name x p1) "append" X.env (eval (.Name x p1) X.env) = eval (.Name x p1) X.env := by rfl)
    (hfew : ((backTo cpos (starEach (e :: []) X.env)).all (fun x => !x.1) && (backToKw cpos (keywordEach [] X.env)).all (fun x => x.1.isSome)
      && decide ((e :: []).length + ([] : List Keyword).length + (if ([] : List Keyword).isEmpty then 0 else 1) < 30)) = true := by rfl)
    (hline : (apos.endLine == cpos.line) = true := by rfl) (hs : starEach (e :: []) X.env = (false, eval e X.env) :: starEach [] X.env := by rfl) (hplain : (backTo cpos (starEach [] X.env)).any (·.1) = false := by rfl)
    (hsw : swapsWith (.Call (.Attribute (.Name x p1) "append" apos) [e] [] cpos) none pos.line X.env = pure false := by rfl) :
    DS X E (.Expr (.Call (.Attribute (.Name x p1) "append" apos) [e] [] cpos) pos) (dApp i t) :=
  ⟨fun G bs => (ps_expr (pe_bm PySem.F.plainAttrs_list PySem.F.slot_list_append PySem.F.type_list_append mt_append (pe_var hN hv hd hcd) (pa_cons (he.run G bs) pa_nil hs) hbase hfew hline hs hplain) hsw).imp fun D σ H ⟨s, R, q⟩ => by
    unfold dApp at q
    cases h1 : s.e[i]? with
    | none => rw [h1] at q; exact q.elim
    | some sl =>
      rw [h1] at q
      match sl, h1, q with
      | .own (.lst l0), h1, q =>
        obtain ⟨a, ea, o, n⟩ := R.1.ownV (.inl h1)
        obtain ⟨xs0, hx0, _⟩ := o
        refine ⟨_, ea, .inl ⟨rfl, xs0, .inl (.inl hx0)⟩, s.e, s.w, [], R.1, q.first fun r s' q v x H' R' r' => ?_⟩
        obtain ⟨R2, r2⟩ := R'.settle r'
        have R3 := R2.push r2
        cases h2 : (settle r s'.e)[i]? with
        | none => simp only [h2] at q; exact q.elim
        | some sl2 =>
          match sl2, h2, q with
          | .own (.lst l), h2, q =>
            cases hd : r.dat with
            | none => simp only [h2, hd] at q; exact q.elim
            | some d =>
              simp only [h2, hd] at q
              rw [weak_of_dat hd] at R3
              obtain ⟨a', ea', o', n'⟩ := R3.ownV (.inl h2)
              rw [ea] at ea'
              cases ea'
              obtain ⟨xs, hx, rx⟩ := o'
              by_cases hz : l.length < 16777216
              · rw [if_pos hz] at q
                refine ⟨a, xs, v, rfl, rfl, hx, by rw [rx.length]; exact Nat.lt_of_lt_of_eq hz sizeLine_eq.symm, ?_⟩
                exact q σ _ (R3.appd settle_nol h2 ea hx)
              · rw [if_neg hz] at q; exact q.elim
          | .no, h2, q => simp only [h2] at q; exact q.elim
          | .sh _, h2, q => simp only [h2] at q; exact q.elim
          | .lck _, h2, q => simp only [h2] at q; exact q.elim
          | .dr, h2, q => simp only [h2] at q; exact q.elim
          | .own .non, h2, q => simp only [h2] at q; exact q.elim
          | .own (.bl _), h2, q => simp only [h2] at q; exact q.elim
          | .own (.int _), h2, q => simp only [h2] at q; exact q.elim
          | .own (.str _), h2, q => simp only [h2] at q; exact q.elim
          | .own (.tup _), h2, q => simp only [h2] at q; exact q.elim
          | .own (.dk _), h2, q => simp only [h2] at q; exact q.elim
          | .own (.dt _), h2, q => simp only [h2] at q; exact q.elim
          | .own (.raw _), h2, q => simp only [h2] at q; exact q.elim
          | .own (.fn _ _ _ _ _), h2, q => simp only [h2] at q; exact q.elim
          | .own (.exn0 _), h2, q => simp only [h2] at q; exact q.elim
          | .own (.exn1 _ _ _), h2, q => simp only [h2] at q; exact q.elim
      | .no, _, q => exact q.elim
      | .sh _, _, q => exact q.elim
      | .lck _, _, q => exact q.elim
      | .dr, _, q => exact q.elim
      | .own .non, _, q => exact q.elim
      | .own (.bl _), _, q => exact q.elim
      | .own (.int _), _, q => exact q.elim
      | .own (.str _), _, q => exact q.elim
      | .own (.tup _), _, q => exact q.elim
      | .own (.dk _), _, q => exact q.elim
      | .own (.dt _), _, q => exact q.elim
      | .own (.raw _), _, q => exact q.elim
      | .own (.fn _ _ _ _ _), _, q => exact q.elim
      | .own (.exn0 _), _, q => exact q.elim
      | .own (.exn1 _ _ _), _, q => exact q.elim⟩

/-! ### a def's promise -/
/-- a def as a function: its record of draws, its arguments; its end (rt, exc) -/
abbrev FN := W → List Sl → Option Fl
def ArgRep (K : PySem.W.Frag) (A : AS) (dr : Option Dr) (H : Hp) (v : V) : Sl → Prop
  | .sh d => Rep K (fun b => A b ∨ DrS dr b) H v d
  | .dr => ∃ r, dr = some r ∧ v = .ref r.d
  | _ => False
def ArgsRep (K : PySem.W.Frag) (A : AS) (dr : Option Dr) (H : Hp) : List V → List Sl → Prop
  | [], [] => True
  | v :: vs, r :: rs => ArgRep K A dr H v r ∧ ArgsRep K A dr H vs rs
  | _, _ => False
def FEnd (K : PySem.W.Frag) (A : AS) (dr : Option Dr) (H : Hp) (Q : VK) (E : XK) : Option Fl → Prop
  | some (.rt (.sh d) s) => ∀ v H', Ch (DrS dr) H H' → WRep dr s.w H' → Rep K (fun b => A b ∨ DrS dr b) H' v d → Q v H'
  | some (.rt (.own d) s) => ∀ a H', Ch (DrS dr) H H' → WRep dr s.w H' → H a = none → OwnRep K (fun b => A b ∨ DrS dr b ∨ b = a) H' a d → Q (.ref a) H'
  | some (.exc x w) => ∀ cls dd H', Ch (DrS dr) H H' → WRep dr w H' → XRep K (fun b => A b ∨ DrS dr b) x cls dd H' → E cls dd H'
  | _ => False
def spF (K : PySem.W.Frag) (n : Nat) (F : FN) : Sp := fun vs H Q E => vs.length = n ∧ ∃ (A : AS) (dr : Option Dr) (w : W) (rs : List Sl),
  (∀ b, A b → Solid H b) ∧ WRep dr w H ∧ ArgsRep K A dr H vs rs ∧ FEnd K A dr H Q E (F w rs)
/-- the body's function, run on arguments, the other slots empty -/
@[simp] def runF (n : Nat) (t : TSf) : FN := fun w rs => match t ⟨w, rs ++ List.replicate (n - rs.length) .no⟩ with
  | some (.nx s) => some (.rt (.sh .non) s)
  | some (.rt r s) => some (.rt r s)
  | some (.exc x w) => some (.exc x w)
  | _ => none
theorem ArgsRep.length {K : PySem.W.Frag} {A : AS} {dr : Option Dr} {H : Hp} : ∀ {vs : List V} {rs : List Sl}, ArgsRep K A dr H vs rs → vs.length = rs.length
  | [], [], _ => rfl
  | _ :: _, _ :: _, h => by rw [List.length_cons, List.length_cons, ArgsRep.length h.2]
  | [], _ :: _, h => h.elim
  | _ :: _, [], h => h.elim
theorem ArgsRep.get {K : PySem.W.Frag} {A : AS} {dr : Option Dr} {H : Hp} : ∀ {vs : List V} {rs : List Sl} {i : Nat} {r : Sl}, ArgsRep K A dr H vs rs → rs[i]? = some r → ∃ v, vs[i]? = some v ∧ ArgRep K A dr H v r
  | v :: vs, r :: rs, 0, q, h, e => by cases e; exact ⟨v, rfl, h.1⟩
  | v :: vs, r :: rs, i + 1, q, h, e => h.2.get (i := i) (by simpa using e)
  | [], [], _, _, _, e => by simp at e
  | [], _ :: _, _, _, h, _ => h.elim
  | _ :: _, [], _, _, h, _ => h.elim
/-- at a def's entry -/
theorem SRep.enter {K : PySem.W.Frag} {A : AS} {dr : Option Dr} {H : Hp} {w : W} {N : List Str} {vs : List V} {rs : List Sl} (hA : ∀ b, A b → Solid H b) (hw : WRep dr w H) (ha : ArgsRep K A dr H vs rs) (hn : vs.length ≤ N.length) :
    SRep K ⟨A, H, dr⟩ [] (L2.start N vs) (rs ++ List.replicate (N.length - rs.length) .no) w [] none H ∧ NoL (rs ++ List.replicate (N.length - rs.length) .no) := by
  have hl := ha.length
  have kind : ∀ (i : Nat) s, (rs ++ List.replicate (N.length - rs.length) Sl.no)[i]? = some s → s = .no ∨ rs[i]? = some s := fun i s h => by
    by_cases hi : i < rs.length
    · rw [List.getElem?_append_left hi] at h; exact .inr h
    · rw [List.getElem?_append_right (by omega)] at h
      exact .inl (List.eq_of_mem_replicate (List.mem_of_getElem? h))
  have noOwn : ∀ (i : Nat) d, ¬ ((rs ++ List.replicate (N.length - rs.length) Sl.no)[i]? = some (.own d) ∨ (rs ++ List.replicate (N.length - rs.length) Sl.no)[i]? = some (.lck d)) := fun i d h => by
    rcases h with h | h
    · rcases kind i _ h with z | z
      · cases z
      · obtain ⟨v, _, q⟩ := ha.get z; exact q
    · rcases kind i _ h with z | z
      · cases z
      · obtain ⟨v, _, q⟩ := ha.get z; exact q
  have qA : ∀ b, AvA ⟨A, H, dr⟩ (L2.start N vs) (rs ++ List.replicate (N.length - rs.length) .no) none b → A b ∨ DrS dr b := fun b z => by
    rcases z with z | z | ⟨i, d, h, _⟩ | z
    · exact .inl z
    · exact .inr z
    · exact (noOwn i d h).elim
    · cases z
  refine ⟨⟨?_, Ch.refl, hA, fun b h => ?_, hw, fun i sl ov h1 h2 => ?_, fun i j d d' a hi _ _ _ => (noOwn i d hi).elim, fun p hp => absurd hp (by simp), fun p hp => absurd hp (by simp), fun a h => by cases h⟩, fun i d h => noOwn i d (.inr h)⟩
  · rw [List.length_append, List.length_replicate, L2.start, List.length_append, List.length_map, List.length_replicate]; omega
  · obtain ⟨r, hr, q⟩ := h
    obtain ⟨h1, h2, h3, _, h5⟩ := hw.2 r hr
    rcases q with q | q | q | ⟨p, hp, q⟩ <;> subst q
    · show H r.d ≠ none; rw [h1]; simp
    · show H r.l ≠ none; rw [h2]; simp
    · show H r.c ≠ none; rw [h3]; simp
    · obtain ⟨ps, h6, _⟩ := h5 p hp
      show H p.1 ≠ none; rw [h6]; simp
  · rcases kind i sl h1 with z | z
    · subst z; exact True.intro
    · obtain ⟨v, ev, q⟩ := ha.get z
      have hi : i < vs.length := (List.getElem?_eq_some_iff.mp ev).1
      have e2 : ov = some v := by
        unfold L2.start at h2
        rw [List.getElem?_append_left (by simpa using hi), List.getElem?_map, ev] at h2
        exact (Option.some.inj h2).symm
      subst e2
      cases sl with
      | sh d => exact ⟨v, rfl, (show Rep K (fun b => A b ∨ DrS dr b) H v d from q).av qA⟩
      | dr => obtain ⟨r, e1, e2⟩ := q; exact ⟨r, e1, by rw [e2]⟩
      | no => exact True.intro
      | own d => exact q.elim
      | lck d => exact q.elim
end
section
variable {P : Program} {w : World} {K : PySem.W.Frag} {mg : Str → Option Value} {base : Heap}
/-- a body that runs on from a def's entry keeps the promise -/
theorem run_spF {N ps : List Str} {t : TSf} {vs : List V} {rs : List Sl} {H : Hp} {Av : AS} {dr : Option Dr} {w0 : W} {Q : VK} {E : XK} (hn : ps.length ≤ N.length) (hl : vs.length = ps.length) (hA : ∀ b, Av b → Solid H b) (hw : WRep dr w0 H) (ha : ArgsRep K Av dr H vs rs)
    (q : FEnd K Av dr H Q E (runF N.length t w0 rs)) : liftS K ⟨Av, H, dr⟩ [] E t { nx := fun _ H' => Q .non H', rt := Q } (L2.start N vs) H := by
  refine ⟨⟨w0, rs ++ List.replicate (N.length - rs.length) Sl.no⟩, (show SR0 K ⟨Av, H, dr⟩ [] (L2.start N vs) ⟨w0, rs ++ List.replicate (N.length - rs.length) Sl.no⟩ H from SRep.enter (N := N) hA hw ha (by omega)), ?_⟩
  unfold runF at q
  match ht : t ⟨w0, rs ++ List.replicate (N.length - rs.length) .no⟩ with
  | none => rw [ht] at q ⊢; exact q.elim
  | some (.bk s) => rw [ht] at q ⊢; exact q.elim
  | some (.ct s) => rw [ht] at q ⊢; exact q.elim
  | some (.exc x w) => rw [ht] at q ⊢; exact fun cls dd H' ⟨c, wr, xr⟩ => q cls dd H' c wr xr
  | some (.nx s) => rw [ht] at q ⊢; exact fun σ' H' R' => q .non H' R'.1.ext R'.1.wr .non
  | some (.rt r s) =>
    rw [ht] at q ⊢
    intro σ' v x H' R' r'
    cases r with
    | sh d =>
      exact q v H' R'.ext R'.wr (r'.2.av fun b z => z.elim (fun z => .inl z) fun z => .inr (.inl z))
    | own d =>
      obtain ⟨a, e1, e2, o⟩ := r'
      subst e2
      refine q a H' R'.ext R'.wr (R'.fr a e1).1 (o.av fun b z => ?_)
      rcases z with z | z | z
      · exact .inl z
      · exact .inr (.inl z)
      · exact .inr (.inr (.inr (by rw [z])))
    | dr => exact q.elim
    | no => exact q.elim
    | lck d => exact q.elim
end
section
variable {X : Cx} {E : XK}
/-- f(es) -/
@[simp] def dCall (F : FN) (u : TAf) : TEf := fun s => aE (u s) fun rs s => match F s.w rs with
  | some (.rt (.sh d) s') => some (.val (.sh d) ⟨s'.w, s.e⟩)
  | some (.rt (.own d) s') => some (.val (.own d) ⟨s'.w, s.e⟩)
  | some (.exc x w) => some (.exc x w)
  | _ => none
theorem argsRep_of {K : PySem.W.Frag} {G : GC} {Av : AS} {dr : Option Dr} {H : Hp} {A : AS} (hA : ∀ b, A b ∨ DrS dr b → Av b) (hd : G.dr = dr) : ∀ {rs : List Sl} {vs : List V}, vs.length = rs.length → (∀ p ∈ vs.zip rs, PRep K G Av H p.1 p.2) → ArgsRep K A dr H vs rs
  | [], [], _, _ => True.intro
  | r :: rs, v :: vs, hl, h => by
    refine ⟨?_, argsRep_of hA hd (by simpa using hl) fun p hp => h p (by rw [List.zip_cons_cons]; exact List.mem_cons_of_mem _ hp)⟩
    have q := h (v, r) (by simp)
    cases r with
    | sh d => exact (show Rep K Av H v d from q).av hA
    | dr => obtain ⟨r, e1, e2⟩ := q; exact ⟨r, hd ▸ e1, e2⟩
    | no => exact q.elim
    | own d => exact q.elim
    | lck d => exact q.elim
  | [], _ :: _, hl, _ => by simp at hl
  | _ :: _, [], hl, _ => by simp at hl
@[simp] def callEnd (e : List Sl) : Option Fl → Option RE
  | some (.rt (.sh d) s') => some (.val (.sh d) ⟨s'.w, e⟩)
  | some (.rt (.own d) s') => some (.val (.own d) ⟨s'.w, e⟩)
  | some (.exc x w) => some (.exc x w)
  | _ => none
/-- what a call's end gives the caller -/
theorem fend_of {bs : Bs} {G : GC} {o : Option Fl} {σ : St} {H1 : Hp} {Q : VK} {s : S} {pd : Pd} (R2 : SRep X.K G bs σ s.e s.w pd none H1) (h : LQ X.K G bs E σ pd Q (callEnd s.e o)) : FEnd X.K (fun b => G.A b ∨ Own1 σ s.e b) G.dr H1 Q E o := by
  cases o with
  | none => exact h.elim
  | some fl =>
    cases fl with
    | rt r s' =>
      cases r with
      | sh d =>
        intro v H2 c wr rv
        exact h v none H2 (R2.grow c wr) ⟨rfl, rv.av fun b z => by
          rcases z with z | z | z | z
          · exact .inl (.inl z)
          · exact .inr z
          · exact .inl (.inr z)
          · cases z⟩
      | own d =>
        intro a H2 c wr na o
        have Rg := R2.grow c wr
        have nG : G.H0 a = none := R2.newH0 na
        have nO : ¬ OwnS σ s.e a := fun z => R2.new na (.inr (.inr (.inl z)))
        -- nothing reaches the new list
        refine h (.ref a) (some a) H2 ?_ ⟨a, rfl, rfl, o.av fun b z => ?_⟩
        · have q : ∀ b, AvA G σ s.e (some a) b → AvA G σ s.e none b ∨ H1 b = none := fun b z => by
            rcases z with z | z | z | z
            · exact .inl (.inl z)
            · exact .inl (.inr (.inl z))
            · exact .inl (.inr (.inr (.inl z)))
            · cases z; exact .inr na
          have q' : ∀ b, AvP G σ s.e (some a) b → AvP G σ s.e none b ∨ H1 b = none := fun b z => by
            rcases z with z | z | z | z
            · exact .inl (.inl z)
            · exact .inl (.inr (.inl z))
            · exact .inl (.inr (.inr (.inl z)))
            · cases z; exact .inr na
          have sA : ∀ b, DrS G.dr b → AvA G σ s.e (some a) b := fun b z => .inr (.inl z)
          exact ⟨Rg.len, Rg.ext, Rg.dom, Rg.drd, Rg.wr, fun i sl ov h1 h2 => (R2.slot i sl ov h1 h2).imp (fun _ _ z => (z.avF q).ch c sA) fun b d _ n z => (z.avF q).ch c sA (R2.own_nodr n),
            Rg.inj, fun p hp => (R2.pend p hp).imp fun _ _ z => (z.avF q').ch c fun b z => .inr (.inl z), fun p hp => ((R2.base p hp).avF q).ch c sA, fun b hb => by cases hb; exact ⟨nG, nO, o.box.some⟩⟩
        · rcases z with z | z | z | z
          · exact .inl (.inl z)
          · exact .inr (.inl z)
          · exact .inl (.inr z)
          · exact .inr (.inr (Option.some.inj z).symm)
      | no => exact h.elim
      | lck d => exact h.elim
      | dr => exact h.elim
    | exc x w' =>
      intro cls dd H2 c wr xr
      refine h cls dd H2 ⟨R2.ext.trans c, wr, xr.1, ?_⟩
      have x2 := xr.2
      cases hx : x.f with
      | none => rw [hx] at x2; exact x2
      | some p =>
        rw [hx] at x2
        obtain ⟨a, v, z1, z2, zn, z3⟩ := x2
        exact ⟨a, v, z1, z2, fun z => zn (z.elim (fun z => .inl (.inl z)) .inr), z3.av fun b z => z.elim (fun z => .inl (.inl z)) .inr⟩
    | _ => exact h.elim
theorem lift_call {bs : Bs} {G : GC} {n : Nat} {F : FN} {u : TAf} (hn : ∀ s rs s', u s = some (.vals rs s') → rs.length = n) {σ : St} {H : Hp} {Q : VK} (h : lift X.K G bs E (dCall F u) σ H Q) :
    tCallS (spF X.K n F) (fun _ => E) (liftA X.K G bs E u) σ H Q := by
  obtain ⟨e, w, pd, R, h⟩ := h
  refine ⟨e, w, pd, R, ?_⟩
  unfold dCall at h
  cases hu : u ⟨w, e⟩ with
  | none => rw [hu] at h; exact h.elim
  | some ra =>
    rw [hu] at h
    cases ra with
    | exc x w' => exact h
    | vals rs s =>
      intro vs H1 hl R1
      simp only [aE_val] at h
      refine ⟨by rw [hl]; exact hn _ _ _ hu, fun b => G.A b ∨ Own1 σ s.e b, G.dr, s.w, rs, fun b z => ?_, R1.wr, ?_, ?_⟩
      · rcases z with z | z
        · exact R1.solid (.inl z)
        · exact R1.solid (.inr (.inr (.inl z)))
      · refine argsRep_of (G := G) (Av := AvP G σ s.e none) (fun b z => ?_) rfl hl fun p hp => R1.pend p (List.mem_append_left _ hp)
        rcases z with (z | z) | z
        · exact .inl z
        · exact .inr (.inr (.inl z))
        · exact .inr (.inl z)
      · exact fend_of R1.rest (by cases hf : F s.w rs with
          | none => rw [hf] at h; exact h.elim
          | some fl => rw [hf] at h; cases fl with
            | rt r s' => cases r <;> exact h
            | _ => exact h)
end
end DL

end

section -- DL8
set_option Elab.async false
set_option linter.all false
set_option maxRecDepth 100000
set_option maxHeartbeats 2000000
/-! DL8: defs that know that no repr is under way (FnG), calls. -/
namespace DL
open PySem PySem.Spec L2
open PyProof.Rows (envOfC)

/-- room, and nothing is being shown -/
structure Rm (k : Nat) (A : Around) : Prop where
  rm : Room k A
  gd : A.guards = some []
theorem Rm.mono {j k : Nat} {A : Around} (r : Rm k A) (h : j ≤ k) : Rm j A := ⟨r.rm.mono h, r.gd⟩
theorem Rm.deeper {k : Nat} {A : Around} (r : Rm (k + 1) A) (env : Env) : Rm k (A.deeper env) := ⟨r.rm.deeper env, r.gd⟩
/-- a def as it stands behind the top -/
abbrev FnP (K : PySem.W.Frag) (x : Str) (st : Stmt) (f : Addr) (fd : FuncData) : Prop := FunD K x x (defArgs st) (defBody st) (defScope st) [] [] f fd
/-- a def's promise where nothing is being shown -/
structure FnG (P : Program) (w : World) (K : PySem.W.Frag) (mg : Str → Option Value) (base : Heap) (k : Nat) (f : Addr) (fd : FuncData) (ps : List Str) (sp : Sp) : Prop where
  len : ∀ vs H Q E, sp vs H Q E → vs.length = ps.length
  run : ∀ (A : Around) (fs : List Env) (s : Shared) (H : Hp) (args : Args) (us : List Value) (vs : List V) (Q : VK) (E : XK), Rm k A → Env0 P w K mg base A fs s H →
    BindsTo s fd args (ps.zip us) → Vals vs us → sp vs H Q E → codeAny (model P w) A (.call (.ref f) args) (CR (L2.CX P w) fs P w H s Q E) s
section
variable {P : Program} {w : World} {K : PySem.W.Frag} {mg : Str → Option Value} {base : Heap} {f : Addr} {fd : FuncData} {ps : List Str} {sp : Sp} {k : Nat}
theorem FnG.mono {j : Nat} (F : FnG P w K mg base j f fd ps sp) (h : j ≤ k) : FnG P w K mg base k f fd ps sp :=
  ⟨F.len, fun A fs s H args us vs Q E hr => F.run A fs s H args us vs Q E (hr.mono h)⟩
theorem FnG.imp {sp' : Sp} (F : FnG P w K mg base k f fd ps sp) (h : ∀ vs H Q E, sp' vs H Q E → sp vs H Q E) : FnG P w K mg base k f fd ps sp' :=
  ⟨fun vs H Q E q => F.len vs H Q E (h _ _ _ _ q), fun A fs s H args us vs Q E hr he hb hv hs => F.run A fs s H args us vs Q E hr he hb hv (h _ _ _ _ hs)⟩
/-- the body keeps the promise -/
theorem fnG_ofC {dvs : List V} {kws : List (Str × V)} {x qual : Str} {st : Stmt} {N : List Str} (F : FunD K x qual (defArgs st) (defBody st) (defScope st) dvs kws f fd) (S : FnScope N ps (defScope st)) (len : ∀ vs H Q E, sp vs H Q E → vs.length = ps.length)
    (body : ∀ (cdv : Value), fd.code = cdv → ∀ (A : Around) (fs : List Env) (s : Shared) (H : Hp) (vs : List V) (Q : VK) (E : XK), Rm k (A.deeper (envOfC qual (defScope st) s.heap.objs.size f cdv)) → sp vs H Q E →
      ∃ t, PSs (cxOf (L2.CX P w) P w K mg base N qual (defScope st) f cdv A fs s H E) (defBody st) t ∧ t { nx := fun _ H' => Q .non H', rt := Q } (start N vs) H) : FnG P w K mg base (k + 1) f fd ps sp := by
  obtain ⟨oc, od, dV, kV, doc, pm, an, cdv, ct, osl, rfl, lk, hcd, _, _⟩ := F.ex
  refine ⟨len, ?_⟩
  intro A fs s H args us vs Q E hr e0 hb rv hsp
  have size := len _ _ _ _ hsp
  have there : ∀ b o, base.get? b = some o → s.heap.get? b = some o := fun b o e => (e0.bs b o e).1
  have inK : K.In s.heap := e0.mod.kin.keeps there
  have nolim : s.heap.NoLimit := e0.mod.nolimit.keeps there
  have kinds : ∀ y ∈ ps.zip us, (defScope st).names.lookup y.1 = some .local ∨ ((defScope st).names.lookup y.1 = some .cell ∧ ((cellsFrom (s.heap.objs.size + 1) (defScope st).names []).lookup y.1).isSome = true) := by
    rintro ⟨n, v⟩ hy
    rcases S.par n (List.of_mem_zip hy).1 with z | z
    · exact Or.inl z
    · exact Or.inr ⟨z, PySem.W.cellsFrom_some _ _ _ (Or.inl z)⟩
  refine codeAny_call_function hr.rm.depth (inK _ _ lk) rfl S.co S.gen rfl (PySem.W.codeRec_of inK hcd) (hb _ _ _ _ ?_)
  refine wpAny_newFunctionEnv_cells S.kind kinds (fun env he s1 x => ?_)
  subst he
  refine ⟨nolim.keeps x.toInCall.keep, codeAny_func ?_⟩
  obtain ⟨t, ht, hq⟩ := body cdv rfl A fs s H vs Q E (hr.deeper _) hsp
  have I := inv_start (CX := L2.CX P w) (qual := qual) (f := f) (cd := cdv) (E := E) S hr.rm.hd e0 size rv x
  refine wpAny_mono (ht.run [] s1 _ H _ I hq) ?_ (fun e s' z => z)
  intro fl s' z
  cases fl with
  | next =>
    obtain ⟨σ', H', J, q⟩ := z
    exact ⟨V.non, H', J.os, J.bare, J.base, J.hok, rfl, q⟩
  | ret u =>
    obtain ⟨v, σ', H', J, r, q⟩ := z
    exact ⟨v, H', J.os, J.bare, J.base, J.hok, r, q⟩
  | brk => obtain ⟨_, _, _, q⟩ := z; exact q.elim
  | cont => obtain ⟨_, _, _, q⟩ := z; exact q.elim
theorem fnG_of {dvs : List V} {kws : List (Str × V)} {x qual : Str} {st : Stmt} {N : List Str} (F : FunD K x qual (defArgs st) (defBody st) (defScope st) dvs kws f fd) (S : FnScope N ps (defScope st)) (len : ∀ vs H Q E, sp vs H Q E → vs.length = ps.length)
    (body : ∀ (cdv : Value) (A : Around) (fs : List Env) (s : Shared) (H : Hp) (vs : List V) (Q : VK) (E : XK), Rm k (A.deeper (envOfC qual (defScope st) s.heap.objs.size f cdv)) → sp vs H Q E →
      ∃ t, PSs (cxOf (L2.CX P w) P w K mg base N qual (defScope st) f cdv A fs s H E) (defBody st) t ∧ t { nx := fun _ H' => Q .non H', rt := Q } (start N vs) H) : FnG P w K mg base (k + 1) f fd ps sp :=
  fnG_ofC F S len fun cdv _ => body cdv
/-- THE RULE for a def: its body as a function of the state -/
theorem fnG_ok {dvs : List V} {kws : List (Str × V)} {x qual : Str} {st : Stmt} {N : List Str} {t : TSf} (F : FunD K x qual (defArgs st) (defBody st) (defScope st) dvs kws f fd) (S : FnScope N ps (defScope st)) (hn : ps.length ≤ N.length)
    (hbody : ∀ (cdv : Value) (A : Around) (fs : List Env) (s : Shared) (H : Hp) (E : XK), Rm k (A.deeper (envOfC qual (defScope st) s.heap.objs.size f cdv)) →
      DSs (cxOf (L2.CX P w) P w K mg base N qual (defScope st) f cdv A fs s H E) E (defBody st) t) : FnG P w K mg base (k + 1) f fd ps (spF K ps.length (runF N.length t)) := by
  refine fnG_of F S (fun vs H Q E h => h.1) fun cdv A outer s H vs Q E hr h => ?_
  obtain ⟨hl, Av, dr, w0, rs, hA, hw, ha, q⟩ := h
  exact ⟨_, (hbody cdv A outer s H E hr).run ⟨Av, H, dr⟩ [], run_spF hn hl hA hw ha q⟩
end
section
variable {X : Cx} {E : XK} {k : Nat} {f : Addr} {fd : FuncData} {ps : List Str} {sp : Sp}
/-- the callee runs -/
theorem run_fnG {pins : List (Addr × Obj)} {σ : St} {H : Hp} {s : Shared} {Q : VK} {us : List Value} {vs : List V} (F : FnG X.prog X.w X.K X.mg X.base k f fd ps sp) (hr : Rm k X.A) (hb : Binds X.K fd ps []) (hx : PassesAt (L2.CX X.prog X.w) X σ E)
    (I : Inv X pins σ H s) (r : Vals vs us) (h : sp vs H Q E) : wpAny (model X.prog X.w) X.A (call (.ref f) us) (EP X pins σ Q) X.xe s := by
  have size : us.length = ps.length := by rw [← F.len _ _ _ _ h, r.length]
  have bt := hb s us I.kIn (by rw [List.append_nil]; exact size)
  rw [List.append_nil] at bt
  refine wpAny_call (codeAny_mono (F.run X.A X.stack s H ⟨us, []⟩ us vs Q E hr I.env0 bt r h) ?_)
  intro r s' z
  match r, z with
  | .error e, z => exact hx pins H s e s' I z
  | .ok (.ret u), z => exact I.after z
  | .ok .next, z => exact z.elim
  | .ok .brk, z => exact z.elim
  | .ok .cont, z => exact z.elim
/-- f(e, ..) -/
theorem pe_callG {x : Str} {p pos : Pos} {e : Expr} {es : List Expr} {t : TA} (F : FnG X.prog X.w X.K X.mg X.base k f fd ps sp) (hr : Rm k X.A) (hg : Gl X x) (hm : X.mg x = some (.ref f)) (hk : PySem.W.keepIn X.K (.ref f) = true) (hb : Binds X.K fd ps [])
    (hx : ∀ σ, PassesAt (L2.CX X.prog X.w) X σ E) (ha : PA X (e :: es) t) (hdb : (x == ("__debug__" : Str)) = false := by decide) (he : starEach (e :: es) X.env = (false, eval e X.env) :: starEach es X.env := by rfl)
    (hpl : (backTo pos (starEach es X.env)).any (·.1) = false := by rfl) : PE X (.Call (.Name x p) (e :: es) [] pos) (tCallS sp (fun _ => E) t) := by
  constructor
  intro pins s σ H Q I h
  refine PySem.wpAny_Call_Name_kw (ld_glob I hg hm ?_ hdb)
  have args := ha.run pos pins s σ H _ I h
  refine PySem.W.callWith_K I.ok.mod.kin hk (thn args ?_) he hpl
  rintro us s1 ⟨vs, H1, I1, r, q⟩
  exact ⟨I1.kIn, run_fnG F hr hb (hx σ) I1 r q⟩
theorem de_call {x : Str} {p pos : Pos} {e : Expr} {es : List Expr} {u : TAf} {n : Nat} {Fn : FN} (F : FnG X.prog X.w X.K X.mg X.base k f fd ps (spF X.K n Fn)) (hr : Rm k X.A) (hg : Gl X x) (hm : X.mg x = some (.ref f)) (hk : PySem.W.keepIn X.K (.ref f) = true)
    (hb : Binds X.K fd ps []) (tk : L2.Takes X fun cls d _ H => E cls d H) (ha : DA X E (e :: es) u) (hn : ∀ s rs s', u s = some (.vals rs s') → rs.length = n) (hdb : (x == ("__debug__" : Str)) = false := by decide)
    (he : starEach (e :: es) X.env = (false, eval e X.env) :: starEach es X.env := by rfl) (hpl : (backTo pos (starEach es X.env)).any (·.1) = false := by rfl) : DE X E (.Call (.Name x p) (e :: es) [] pos) (dCall Fn u) :=
  ⟨fun G bs => (pe_callG F hr hg hm hk hb (fun σ => passAt (W := fun cls d _ H => E cls d H) tk σ) (ha.run G bs) hdb he hpl).imp fun σ H Q h => lift_call hn h⟩
/-- f() -/
theorem pe_callG0 {x : Str} {p pos : Pos} (F : FnG X.prog X.w X.K X.mg X.base k f fd ps sp) (hr : Rm k X.A) (hg : Gl X x) (hm : X.mg x = some (.ref f)) (hk : PySem.W.keepIn X.K (.ref f) = true) (hb : Binds X.K fd ps [])
    (hx : ∀ σ, PassesAt (L2.CX X.prog X.w) X σ E) (hdb : (x == ("__debug__" : Str)) = false := by decide) : PE X (.Call (.Name x p) [] [] pos) (tCallS sp (fun _ => E) tNil) := by
  constructor
  intro pins s σ H Q I h
  refine PySem.wpAny_Call_Name_kw (ld_glob I hg hm ?_ hdb)
  exact PySem.W.callWith_K0 I.kIn hk (run_fnG F hr hb (hx σ) I .nil h)
/-- how many arguments -/
def ALen (u : TAf) (n : Nat) : Prop := ∀ s rs s', u s = some (.vals rs s') → rs.length = n
theorem ALen.nil : ALen dNil 0 := fun s rs s' h => by cases h; rfl
theorem ALen.cons {t : TEf} {u : TAf} {n : Nat} (h : ALen u n) : ALen (dCons t u) (n + 1) := fun s rs s' e => by
  unfold dCons at e
  cases ht : t s with
  | none => rw [ht] at e; cases e
  | some r =>
    rw [ht] at e
    cases r with
    | exc _ _ => cases e
    | val x s1 =>
      simp only [eA_val] at e
      cases hu : u s1 with
      | none => rw [hu] at e; cases e
      | some q =>
        rw [hu] at e
        cases q with
        | exc _ _ => cases e
        | vals xs s2 =>
          cases e
          rw [List.length_cons, h _ _ _ hu]
end
end DL

end

section -- DL9
set_option Elab.async false
set_option linter.all false
set_option maxRecDepth 100000
set_option maxHeartbeats 2000000
/-! DL9: operators, calls, methods of built-in types, over data. -/
namespace DL
open PySem PySem.Spec L2

theorem SRep.two {K : PySem.W.Frag} {G : GC} {bs : Bs} {σ : St} {e : List Sl} {w : W} {pd : Pd} {H : Hp} {v1 v2 : V} {d1 d2 : D} (R : SRep K G bs σ e w ((v2, .sh d2) :: (v1, .sh d1) :: pd) none H) :
    Rep K (AvP G σ e none) H v1 d1 ∧ Rep K (AvP G σ e none) H v2 d2 ∧ SRep K G bs σ e w pd none H := ⟨R.pop.topD, R.topD, R.pop.pop⟩

section
variable {X : Cx}
/-! ### numbers -/
def gI (f : Int → Int → D) : G2 := fun a b => match a, b with
  | .int i, .int j => some (.sh (f i j))
  | _, _ => none
def gIC (c : Int → Int → Bool) (f : Int → Int → D) : G2 := fun a b => match a, b with
  | .int i, .int j => if c i j = true then some (.sh (f i j)) else none
  | _, _ => none
@[simp] theorem gI_int (f : Int → Int → D) (i j : Int) : gI f (.int i) (.int j) = some (.sh (f i j)) := rfl
@[simp] theorem gIC_int (c : Int → Int → Bool) (f : Int → Int → D) (i j : Int) : gIC c f (.int i) (.int j) = if c i j = true then some (.sh (f i j)) else none := rfl
theorem ok_I {f : Int → Int → Int} : OpOk X (rI0 fun i j => .int (f i j)) (gI fun i j => .int (f i j)) := by
  intro G bs σ e w pd H v1 v2 d1 d2 R Q S hg q
  obtain ⟨r1, r2, S'⟩ := S.two
  cases d1 <;> cases d2 <;> cases hg
  rw [r1.int_inv, r2.int_inv]
  exact ⟨_, _, rfl, rfl, q.int S'⟩
theorem ok_B {f : Int → Int → Bool} : OpOk X (rI0 fun i j => .bl (f i j)) (gI fun i j => .bl (f i j)) := by
  intro G bs σ e w pd H v1 v2 d1 d2 R Q S hg q
  obtain ⟨r1, r2, S'⟩ := S.two
  cases d1 <;> cases d2 <;> cases hg
  rw [r1.int_inv, r2.int_inv]
  exact ⟨_, _, rfl, rfl, q.bl S'⟩
theorem ok_IC {C : Int → Int → Prop} {c : Int → Int → Bool} {f : Int → Int → Int} (h : ∀ i j, c i j = true → C i j) : OpOk X (rI C fun i j => .int (f i j)) (gIC c fun i j => .int (f i j)) := by
  intro G bs σ e w pd H v1 v2 d1 d2 R Q S hg q
  obtain ⟨r1, r2, S'⟩ := S.two
  cases d1 <;> cases d2 <;> try (cases hg; done)
  rename_i i j
  rw [gIC_int] at hg
  by_cases hc : c i j = true
  · rw [if_pos hc] at hg
    cases hg
    rw [r1.int_inv, r2.int_inv]
    exact ⟨_, _, rfl, rfl, h i j hc, q.int S'⟩
  · rw [if_neg hc] at hg; cases hg
@[simp] def gSub : G2 := gI fun i j => .int (i - j)
@[simp] def gLt : G2 := gI fun i j => .bl (decide (i < j))
@[simp] def gLe : G2 := gI fun i j => .bl (decide (i ≤ j))
@[simp] def gGt : G2 := gI fun i j => .bl (decide (j < i))
@[simp] def gGe : G2 := gI fun i j => .bl (decide (j ≤ i))
@[simp] def gMod : G2 := gIC (fun _ j => decide (0 < j)) fun i j => .int (i % j)
@[simp] def gFdiv : G2 := gIC (fun _ j => decide (0 < j ∧ j < 1073741824)) fun i j => .int (i / j)
@[simp] def gPow : G2 := gIC (fun i j => decide (0 ≤ j ∧ j ≤ 1000000 ∧ i.natAbs < 18446744073709551616)) fun i j => .int (i ^ j.toNat)
theorem ok_sub : OpOk X (rI0 fun i j => .int (i - j)) gSub := ok_I
theorem ok_lt : OpOk X (rI0 fun i j => .bl (decide (i < j))) gLt := ok_B
theorem ok_le : OpOk X (rI0 fun i j => .bl (decide (i ≤ j))) gLe := ok_B
theorem ok_gt : OpOk X (rI0 fun i j => .bl (decide (j < i))) gGt := ok_B
theorem ok_ge : OpOk X (rI0 fun i j => .bl (decide (j ≤ i))) gGe := ok_B
theorem ok_mod : OpOk X (rI (fun _ j => 0 < j) fun i j => .int (i % j)) gMod := ok_IC fun i j h => of_decide_eq_true h
theorem ok_fdiv : OpOk X (rI CDiv fun i j => .int (i / j)) gFdiv := ok_IC fun i j h => of_decide_eq_true h
theorem ok_pow : OpOk X (rI CPow fun i j => .int (i ^ j.toNat)) gPow := ok_IC fun i j h => of_decide_eq_true h

/-! ### + -/
def gAdd : G2 := fun a b => match a, b with
  | .int i, .int j => some (.sh (.int (i + j)))
  | .str i, .str j => if i.length + j.length ≤ 16777216 then some (.sh (.str (i ++ j))) else none
  | .lst l, .lst m => if l.length + m.length ≤ 16777216 then some (.own (.lst (l ++ m))) else none
  | .tup l, .tup m => if l.length + m.length ≤ 16777216 then some (.sh (.tup (l ++ m))) else none
  | _, _ => none
@[simp] theorem gAdd_int (i j : Int) : gAdd (.int i) (.int j) = some (.sh (.int (i + j))) := rfl
@[simp] theorem gAdd_str (i j : Str) : gAdd (.str i) (.str j) = if i.length + j.length ≤ 16777216 then some (.sh (.str (i ++ j))) else none := rfl
@[simp] theorem gAdd_lst (l m : List D) : gAdd (.lst l) (.lst m) = if l.length + m.length ≤ 16777216 then some (.own (.lst (l ++ m))) else none := rfl
@[simp] theorem gAdd_tup (l m : List D) : gAdd (.tup l) (.tup m) = if l.length + m.length ≤ 16777216 then some (.sh (.tup (l ++ m))) else none := rfl
def rCatAny (K : PySem.W.Frag) : R2 := fun x y H Q => ∃ a b xs ys, x = .ref a ∧ y = .ref b ∧ SqL K H a xs ∧ SqL K H b ys ∧ xs.length + ys.length ≤ sizeLine ∧ ∀ p, H p = none → Q (.ref p) (upd H p (.lst (xs ++ ys)))
theorem op_catAny : OpR X (binaryOp .Add) (rCatAny X.K) := by
  intro pins s σ H x y v u Q I rx ry ⟨a, b, xs, ys, e1, e2, ha, hb, hz, q⟩
  subst e1; subst e2
  cases rx
  cases ry
  obtain ⟨its, r1, ⟨o1, n1, g1, c1, _, d1⟩, _⟩ := I.list ha
  obtain ⟨its2, r2, ⟨o2, n2, g2, c2, _, d2⟩, _⟩ := I.list hb
  obtain ⟨cl1, dd1, da1, sl1⟩ := o1
  obtain ⟨cl2, dd2, da2, sl2⟩ := o2
  simp only at c1 d1 c2 d2
  subst c1; subst d1; subst c2; subst d2
  have ea : its.toArray ++ its2.toArray = (its ++ its2).toArray := by simp
  have hz' : its.toArray.size + its2.toArray.size ≤ sizeLine := by rw [List.size_toArray, List.size_toArray, ← r1.length, ← r2.length]; exact hz
  refine concat_meets ⟨_, g1, rfl⟩ ⟨_, g2, rfl⟩ noFill_list_add seq_list_add PySem.F.slot_list_add PySem.F.entry_list_add (PySem.F.args_list_add_2 _ _)
    (PyProof.Rows.list_addW a b its.toArray its2.toArray n1 n2 dd1 dd2 sl1 sl2 hz') ⟨g1, g2, ?_⟩
  rw [ea]
  refine ⟨.ref _, _, I.lnew (t' := s.toks) (r1.append r2) ?_, rfl, q _ I.fresh⟩
  rw [List.length_append]; exact hz
def rAdd (K : PySem.W.Frag) : R2 := fun x y H Q => rI0 (fun i j => .int (i + j)) x y H Q ∨ (∃ i j, x = .str i ∧ y = .str j ∧ i.length + j.length ≤ sizeLine ∧ Q (.str (i ++ j)) H) ∨ rCatAny K x y H Q ∨ rCatA K x y H Q
theorem op_addAll : OpR X (binaryOp .Add) (rAdd X.K) := op_add.or (op_add_str.or (op_catAny.or op_catA))
theorem ok_add : OpOk X (rAdd X.K) gAdd := by
  intro G bs σ e w pd H v1 v2 d1 d2 R Q S hg q
  obtain ⟨r1, r2, S'⟩ := S.two
  unfold gAdd at hg
  split at hg
  · cases hg
    rw [r1.int_inv, r2.int_inv]
    exact .inl ⟨_, _, rfl, rfl, q.int S'⟩
  · split at hg
    · rename_i hz
      cases hg
      rw [r1.str_inv, r2.str_inv]
      exact .inr (.inl ⟨_, _, rfl, rfl, size16.mp hz, q.str S'⟩)
    · cases hg
  · split at hg
    · rename_i hz
      cases hg
      obtain ⟨a, xs, e1, h1, z1⟩ := r1.lst_inv
      obtain ⟨b, ys, e2, h2, z2⟩ := r2.lst_inv
      refine .inr (.inr (.inl ⟨a, b, xs, ys, e1, e2, h1.sq, h2.sq, by rw [z1.length, z2.length]; exact size16.mp hz, fun p hp => q.lst S' (z1.app z2) hp⟩))
    · cases hg
  · split at hg
    · rename_i hz
      cases hg
      have r1' := r1
      have r2' := r2
      obtain ⟨a, xs, e1, h1, z1⟩ := r1.tup_inv
      obtain ⟨b, ys, e2, h2, z2⟩ := r2.tup_inv
      refine .inr (.inr (.inr ⟨a, b, xs, ys, e1, e2, h1.sq, h2.sq, by rw [z1.length, z2.length]; exact size16.mp hz, fun n => ?_, fun _ n => ?_, fun _ _ p hp => q.tup S' (z1.app z2) hp⟩))
      · subst n
        cases z1
        rw [List.nil_append] at q
        exact e2 ▸ q.rep S' r2'
      · subst n
        cases z2
        rw [List.append_nil] at q
        exact e1 ▸ q.rep S' r1'
    · cases hg
  · cases hg

/-! ### * -/
def strMulOk (x : Str) (n : Int) : Bool := decide (0 ≤ n ∧ n ≤ 16777216 ∧ x.length * n.toNat ≤ 16777216)
def gMul : G2 := fun a b => match a, b with
  | .int i, .int j => if decide ((-(18446744073709551616) < i ∧ i < 18446744073709551616) ∨ (-(18446744073709551616) < j ∧ j < 18446744073709551616)) = true then some (.sh (.int (i * j))) else none
  | .str x, .int n => if strMulOk x n = true then some (.sh (.str (Txt.mul x n))) else none
  | _, _ => none
@[simp] theorem gMul_int (i j : Int) : gMul (.int i) (.int j) = if decide ((-(18446744073709551616) < i ∧ i < 18446744073709551616) ∨ (-(18446744073709551616) < j ∧ j < 18446744073709551616)) = true then some (.sh (.int (i * j))) else none := rfl
@[simp] theorem gMul_str (x : Str) (n : Int) : gMul (.str x) (.int n) = if strMulOk x n = true then some (.sh (.str (Txt.mul x n))) else none := rfl
theorem mulOk_of {x : Str} {n : Int} (h : strMulOk x n = true) : MulOk x n := by
  have h := of_decide_eq_true h
  refine ⟨?_, fun h1 h2 => ?_, fun h1 h2 => ?_⟩
  · rw [decide_eq_false (by omega), decide_eq_false (by omega)]; rfl
  · have hp : 0 < n := by omega
    have e : ((2 : Int) ^ 63 - 1) / n ≥ x.length := by
      have h3 := h.2.2
      have h4 : (x.length : Int) * n ≤ 16777216 := by
        have e2 : (n.toNat : Int) = n := Int.toNat_of_nonneg (by omega)
        have h5 : ((x.length * n.toNat : Nat) : Int) ≤ 16777216 := by omega
        rw [Int.natCast_mul, e2] at h5
        exact h5
      exact (Int.le_ediv_iff_mul_le hp).mpr (by omega)
    omega
  · have h3 := h.2.2
    have h4 := sizeLine_eq
    exact decide_eq_false (by omega)
def rMulS : R2 := fun x y H Q => ∃ i n, x = .str i ∧ y = .int n ∧ MulOk i n ∧ Q (.str (Txt.mul i n)) H
theorem op_mulS : OpR X (binaryOp .Mult) rMulS := by
  intro pins s σ H x y v u Q I rx ry ⟨i, n, e1, e2, ok, q⟩
  subst e1; subst e2
  obtain ⟨t, rfl⟩ := rx
  obtain ⟨t', rfl⟩ := ry
  exact SB.mul ok fun t2 k => ⟨.str _, H, I.tok k, ⟨t2, rfl⟩, q⟩
theorem op_mulAll : OpR X (binaryOp .Mult) (fun x y H Q => rI CMul (fun i j => .int (i * j)) x y H Q ∨ rMulS x y H Q) := op_mul.or op_mulS
theorem ok_mul : OpOk X (fun x y H Q => rI CMul (fun i j => .int (i * j)) x y H Q ∨ rMulS x y H Q) gMul := by
  intro G bs σ e w pd H v1 v2 d1 d2 R Q S hg q
  obtain ⟨r1, r2, S'⟩ := S.two
  unfold gMul at hg
  split at hg
  · split at hg
    · rename_i hz
      cases hg
      rw [r1.int_inv, r2.int_inv]
      exact .inl ⟨_, _, rfl, rfl, (show CMul _ _ from by simpa [CMul] using hz), q.int S'⟩
    · cases hg
  · split at hg
    · rename_i hz
      cases hg
      rw [r1.str_inv, r2.int_inv]
      exact .inr ⟨_, _, rfl, rfl, mulOk_of hz, q.str S'⟩
    · cases hg
  · cases hg
end
end DL

end

section -- DL10
set_option Elab.async false
set_option linter.all false
set_option maxRecDepth 100000
set_option maxHeartbeats 2000000
/-! DL10: ==, in, places, slices, built-in functions, over data. -/
namespace DL
open PySem PySem.Spec L2

/-! ### == -/
mutual
def toPy : D → Option PyData
  | .non => some .none
  | .bl b => some (.bool b)
  | .int i => some (.int i)
  | .str x => some (.str x)
  | .tup l => (toPyAll l).map .tuple
  | .lst l => (toPyAll l).map .list
  | .dk _ => none
  | .dt _ => none
  | .raw _ => none
  | .fn _ _ _ _ _ => none
  | .exn0 _ => none
  | .exn1 _ _ _ => none
def toPyAll : List D → Option (List PyData)
  | [] => some []
  | d :: ds => match toPy d, toPyAll ds with
    | some p, some ps => some (p :: ps)
    | _, _ => none
end
mutual
theorem Rep.dp {K : PySem.W.Frag} {Av : AS} {H : Hp} : ∀ {v : V} {d : D} {p : PyData}, Rep K Av H v d → toPy d = some p → Dp K H v p
  | _, _, _, .non, h => by rw [toPy] at h; cases h; exact .non
  | _, _, _, .bl b, h => by rw [toPy] at h; cases h; exact .bl b
  | _, _, _, .int b, h => by rw [toPy] at h; cases h; exact .int b
  | _, _, _, .str b, h => by rw [toPy] at h; cases h; exact .str b
  | _, _, _, .raw v, h => by rw [toPy] at h; cases h
  | _, _, _, .fn _ _ _, h => by rw [toPy] at h; cases h
  | _, _, _, .exn0 _ _, h => by rw [toPy] at h; cases h
  | _, _, _, .exn1 _ _ _ _ _, h => by rw [toPy] at h; cases h
  | _, _, _, .tup (l := l) t r, h => by
    rw [toPy] at h
    cases q : toPyAll l with
    | none => rw [q] at h; cases h
    | some ps => rw [q] at h; cases h; exact .tup t.sq (RepAll.dp r q)
  | _, _, _, .lst (l := l) t r, h => by
    rw [toPy] at h
    cases q : toPyAll l with
    | none => rw [q] at h; cases h
    | some ps => rw [q] at h; cases h; exact .lst t.sq (RepAll.dp r q)
  | _, _, _, .dk _ _ _, h => by rw [toPy] at h; cases h
  | _, _, _, .dt _ _ _, h => by rw [toPy] at h; cases h
theorem RepAll.dp {K : PySem.W.Frag} {Av : AS} {H : Hp} : ∀ {v : List V} {d : List D} {p : List PyData}, RepAll K Av H v d → toPyAll d = some p → DpAll K H v p
  | _, _, _, .nil, h => by rw [toPyAll] at h; cases h; exact .nil
  | _, _, _, .cons (d := d) (ds := ds) r t, h => by
    rw [toPyAll] at h
    cases q1 : toPy d with
    | none => rw [q1] at h; cases h
    | some a =>
      cases q2 : toPyAll ds with
      | none => rw [q1, q2] at h; cases h
      | some b => rw [q1, q2] at h; cases h; exact .cons (Rep.dp r q1) (RepAll.dp t q2)
end
/-- scalars -/
def dV : D → Option V
  | .non => some .non
  | .bl b => some (.bl b)
  | .int i => some (.int i)
  | .str x => some (.str x)
  | _ => none
theorem Rep.dV {K : PySem.W.Frag} {Av : AS} {H : Hp} {v u : V} {d : D} (r : Rep K Av H v d) (h : DL.dV d = some u) : v = u := by
  cases r <;> first
    | (cases h; rfl)
    | (cases h; done)
def eqD (a b : D) : Option Bool := match dV a, dV b with
  | some x, some y => if scal x y = true then some (decide (x = y)) else none
  | _, _ => match toPy a, toPy b with
    | some p, some q => if (SeqAt.shaped p && SeqAt.shaped q) = true then some (PyData.eqv p q) else none
    | _, _ => none
@[simp] def gEq : G2 := fun a b => (eqD a b).map fun k => .sh (.bl k)
@[simp] def gNe : G2 := fun a b => (eqD a b).map fun k => .sh (.bl (!k))
@[simp] theorem eqD_int (i j : Int) : eqD (.int i) (.int j) = some (decide (i = j)) := by simp [eqD, dV, scal]
@[simp] theorem eqD_str (i j : Str) : eqD (.str i) (.str j) = some (decide (i = j)) := by simp [eqD, dV, scal]
@[simp] theorem eqD_bl (i j : Bool) : eqD (.bl i) (.bl j) = some (decide (i = j)) := by simp [eqD, dV, scal]
section
variable {X : Cx}
def rEqA (K : PySem.W.Frag) : R2 := fun x y H Q => rEq x y H Q ∨ rEqD K x y H Q
def rNeA (K : PySem.W.Frag) : R2 := fun x y H Q => rNe x y H Q ∨ rNeD K x y H Q
theorem Rm.eq64 {k : Nat} {A : Around} (r : Rm k A) : A.units + 65 < cLine := by have := r.rm.un; omega
theorem op_eqA {k : Nat} (hr : Rm k X.A) : OpR X (compareOp .Eq) (rEqA X.K) := op_eq.or (op_eqD (by have := hr.eq64; omega))
theorem op_neA {k : Nat} (hr : Rm k X.A) : OpR X (compareOp .NotEq) (rNeA X.K) := op_ne.or (op_neD (by have := hr.eq64; omega))
theorem ok_eqne {r : R2} {f : Bool → Bool} (h1 : ∀ x y H Q, scal x y = true → Q (.bl (f (decide (x = y)))) H → r x y H Q)
    (h2 : ∀ x y H Q d e, Dp X.K H x d → Dp X.K H y e → SeqAt.shaped d = true → SeqAt.shaped e = true → Q (.bl (f (PyData.eqv d e))) H → r x y H Q) : OpOk X r (fun a b => (eqD a b).map fun k => .sh (.bl (f k))) := by
  intro G bs σ e w pd H v1 v2 d1 d2 R Q S hg q
  obtain ⟨r1, r2, S'⟩ := S.two
  have deep : (match toPy d1, toPy d2 with
    | some p, some q => if (SeqAt.shaped p && SeqAt.shaped q) = true then some (PyData.eqv p q) else none
    | _, _ => none).map (fun k => Sl.sh (.bl (f k))) = some R → r v1 v2 H Q := fun hg => by
    cases p1 : toPy d1 with
    | none => rw [p1] at hg; cases hg
    | some p =>
      cases p2 : toPy d2 with
      | none => rw [p1, p2] at hg; cases hg
      | some p' =>
        rw [p1, p2] at hg
        simp only at hg
        by_cases hs : (SeqAt.shaped p && SeqAt.shaped p') = true
        · rw [if_pos hs] at hg
          cases hg
          rw [Bool.and_eq_true] at hs
          exact h2 _ _ _ _ _ _ (r1.dp p1) (r2.dp p2) hs.1 hs.2 (q.bl S')
        · rw [if_neg hs] at hg; cases hg
  have hg : (eqD d1 d2).map (fun k => Sl.sh (.bl (f k))) = some R := hg
  unfold eqD at hg
  cases q1 : dV d1 with
  | none => rw [q1] at hg; exact deep hg
  | some x =>
    cases q2 : dV d2 with
    | none => rw [q1, q2] at hg; exact deep hg
    | some y =>
      rw [q1, q2] at hg
      simp only at hg
      by_cases hs : scal x y = true
      · rw [if_pos hs] at hg
        cases hg
        rw [r1.dV q1, r2.dV q2]
        exact h1 _ _ _ _ hs (q.bl S')
      · rw [if_neg hs] at hg; cases hg
theorem ok_eq : OpOk X (rEqA X.K) gEq := ok_eqne (f := id) (fun x y H Q h q => .inl ⟨h, q⟩) fun x y H Q d e a b c g q => .inr ⟨d, e, a, b, c, g, q⟩
theorem ok_ne : OpOk X (rNeA X.K) gNe := ok_eqne (f := not) (fun x y H Q h q => .inl ⟨h, q⟩) fun x y H Q d e a b c g q => .inr ⟨d, e, a, b, c, g, q⟩

/-! ### one sign in a text -/
def inS (x z : Str) : Option Bool := match x.cps.toList with
  | [c] => some (decide (c ∈ z.cps.toList))
  | _ => none
@[simp] def gIn : G2 := fun a b => match a, b with
  | .str x, .str z => (inS x z).map fun k => .sh (.bl k)
  | _, _ => none
@[simp] def gNotIn : G2 := fun a b => match a, b with
  | .str x, .str z => (inS x z).map fun k => .sh (.bl (!k))
  | _, _ => none
theorem inS_some {x z : Str} {k : Bool} (h : inS x z = some k) : ∃ c, x = ⟨#[c]⟩ ∧ k = decide (c ∈ z.cps.toList) := by
  unfold inS at h
  split at h
  · rename_i c e
    cases h
    refine ⟨c, ?_, rfl⟩
    cases x with
    | mk a => congr 1; exact Array.toList_inj.mp (by simpa using e)
  · cases h
theorem ok_in : OpOk X L2.rInS gIn := by
  intro G bs σ e w pd H v1 v2 d1 d2 R Q S hg q
  obtain ⟨r1, r2, S'⟩ := S.two
  unfold gIn at hg
  split at hg
  · rename_i x z
    cases hi : inS x z with
    | none => rw [hi] at hg; cases hg
    | some k =>
      rw [hi] at hg
      cases hg
      obtain ⟨c, e1, e2⟩ := inS_some hi
      subst e1; subst e2
      rw [r1.str_inv, r2.str_inv]
      exact ⟨c, z, rfl, rfl, q.bl S'⟩
  · cases hg
theorem ok_notIn : OpOk X L2.rNotInS gNotIn := by
  intro G bs σ e w pd H v1 v2 d1 d2 R Q S hg q
  obtain ⟨r1, r2, S'⟩ := S.two
  unfold gNotIn at hg
  split at hg
  · rename_i x z
    cases hi : inS x z with
    | none => rw [hi] at hg; cases hg
    | some k =>
      rw [hi] at hg
      cases hg
      obtain ⟨c, e1, e2⟩ := inS_some hi
      subst e1; subst e2
      rw [r1.str_inv, r2.str_inv]
      exact ⟨c, z, rfl, rfl, q.bl S'⟩
  · cases hg

/-! ### places -/
def gIx : G2 := fun a b => match a, b with
  | .lst l, .int i => (atI l i).map Sl.sh
  | .tup l, .int i => (atI l i).map Sl.sh
  | .str z, .int i => if z.length ≤ 16777216 then (atI z.cps.toList i).map fun c => .sh (.str ⟨#[c]⟩) else none
  | _, _ => none
@[simp] theorem gIx_lst (l : List D) (i : Int) : gIx (.lst l) (.int i) = (atI l i).map Sl.sh := rfl
@[simp] theorem gIx_tup (l : List D) (i : Int) : gIx (.tup l) (.int i) = (atI l i).map Sl.sh := rfl
@[simp] theorem gIx_str (z : Str) (i : Int) : gIx (.str z) (.int i) = if z.length ≤ 16777216 then (atI z.cps.toList i).map fun c => .sh (.str ⟨#[c]⟩) else none := rfl
theorem RepAll.atI {K : PySem.W.Frag} {Av : AS} {H : Hp} {vs : List V} {ds : List D} {i : Int} {d : D} (r : RepAll K Av H vs ds) (h : L2.atI ds i = some d) : ∃ v, L2.atI vs i = some v ∧ Rep K Av H v d := by
  unfold L2.atI at h ⊢
  rw [r.length]
  cases q : ixN ds.length i with
  | none => rw [q] at h; cases h
  | some j => rw [q] at h; exact r.get h
theorem ok_ix : OpOk X (rIx X.K) gIx := by
  intro G bs σ e w pd H v1 v2 d1 d2 R Q S hg q
  obtain ⟨r1, r2, S'⟩ := S.two
  unfold gIx at hg
  split at hg
  · rename_i l i
    cases h : atI l i with
    | none => rw [h] at hg; cases hg
    | some d =>
      rw [h] at hg; cases hg
      obtain ⟨a, xs, e1, h1, z1⟩ := r1.lst_inv
      obtain ⟨v, h2, z2⟩ := z1.atI h
      rw [r2.int_inv]
      exact .inl ⟨a, xs, i, v, e1, rfl, h1.sq, h2, q.rep S' z2⟩
  · rename_i l i
    cases h : atI l i with
    | none => rw [h] at hg; cases hg
    | some d =>
      rw [h] at hg; cases hg
      obtain ⟨a, xs, e1, h1, z1⟩ := r1.tup_inv
      obtain ⟨v, h2, z2⟩ := z1.atI h
      rw [r2.int_inv]
      exact .inr (.inl ⟨a, xs, i, v, e1, rfl, h1.sq, h2, q.rep S' z2⟩)
  · rename_i z i
    by_cases hz : z.length ≤ 16777216
    · rw [if_pos hz] at hg
      cases h : atI z.cps.toList i with
      | none => rw [h] at hg; cases hg
      | some c =>
        rw [h] at hg; cases hg
        rw [r1.str_inv, r2.int_inv]
        exact .inr (.inr ⟨z, i, c, rfl, rfl, size16.mp hz, h, q.str S'⟩)
    · rw [if_neg hz] at hg; cases hg
  · cases hg
theorem de_ix {E : XK} {a b : Expr} {ta tb : TEf} {pos : Pos} (ha : DE X E a ta) (hb : DE X E b tb) (hs : PlainIx b := by intros _ _; rfl) : DE X E (.Subscript a b pos) (dOp gIx ta tb) :=
  ⟨fun G bs => (pe_ix ix_seq (ha.run G bs) (hb.run G bs) hs).imp fun _ _ _ h => lift_op ok_ix h⟩

/-! ### slices -/
abbrev GS := D → Option Int → Option Int → Option Sl
def cutL {α : Type} (xs : List α) (lo hi : Option Int) : List α := (xs.drop (HT.sIx xs.length 0 lo)).take (HT.sIx xs.length xs.length hi - HT.sIx xs.length 0 lo)
def gCut : GS := fun a lo hi => match a with
  | .lst l => some (.own (.lst (cutL l lo hi)))
  | .tup l => some (.sh (.tup (cutL l lo hi)))
  | .str z => if z.length ≤ 16777216 then some (.sh (.str (cutS z lo hi))) else none
  | _ => none
@[simp] theorem gCut_lst (l : List D) (lo hi : Option Int) : gCut (.lst l) lo hi = some (.own (.lst (cutL l lo hi))) := rfl
@[simp] theorem gCut_tup (l : List D) (lo hi : Option Int) : gCut (.tup l) lo hi = some (.sh (.tup (cutL l lo hi))) := rfl
@[simp] theorem gCut_str (z : Str) (lo hi : Option Int) : gCut (.str z) lo hi = if z.length ≤ 16777216 then some (.sh (.str (cutS z lo hi))) else none := rfl
theorem RepAll.cut {K : PySem.W.Frag} {Av : AS} {H : Hp} {vs : List V} {ds : List D} (r : RepAll K Av H vs ds) (lo hi : Option Int) : RepAll K Av H (cutV vs lo hi) (cutL ds lo hi) := by
  unfold cutV cutL
  rw [r.length]
  exact (r.drop _).take _
def rCut (K : PySem.W.Frag) : V → Option Int → Option Int → Hp → VK → Prop := fun x lo hi H Q => rSlL K x lo hi H Q ∨ rSlA K x lo hi H Q ∨ rSlS x lo hi H Q
theorem sl_all : SlR X (rCut X.K) := sl_list.or (sl_tupA.or sl_str)
theorem ok_cut {G : GC} {bs : Bs} {σ : St} {e : List Sl} {w : W} {pd : Pd} {H : Hp} {v : V} {d : D} {lo hi : Option Int} {R : Sl} {Q : VK} (S : SRep X.K G bs σ e w pd none H) (r : Rep X.K (AvP G σ e none) H v d)
    (hg : gCut d lo hi = some R) (q : Gives X.K G bs σ e w pd R Q) : rCut X.K v lo hi H Q := by
  cases d with
  | lst l =>
    cases hg
    obtain ⟨a, xs, e1, h1, z1⟩ := r.lst_inv
    exact .inl ⟨a, xs, e1, h1.sq, fun p hp => q.lst S (z1.cut lo hi) hp⟩
  | tup l =>
    cases hg
    have r0 := r
    obtain ⟨a, xs, e1, h1, z1⟩ := r.tup_inv
    refine .inr (.inl ⟨a, xs, e1, h1.sq, fun w => ?_, fun _ p hp => q.tup S (z1.cut lo hi) hp⟩)
    have e2 : cutL l lo hi = l := by
      unfold cutL
      rw [← z1.length, w.1, w.2, List.drop_zero, Nat.sub_zero, z1.length, List.take_length]
    rw [e2] at q
    exact e1 ▸ q.rep S r0
  | str z =>
    rw [gCut_str] at hg
    by_cases hz : z.length ≤ 16777216
    · rw [if_pos hz] at hg
      cases hg
      exact .inr (.inr ⟨z, r.str_inv, size16.mp hz, q.str S⟩)
    · rw [if_neg hz] at hg; cases hg
  | _ => cases hg
/-- a part of a slice: an int -/
@[simp] def partI (x : Sl) : Option Int := match x with
  | .sh (.int i) => some i
  | _ => none
theorem partI_some {x : Sl} {i : Int} (h : partI x = some i) : x = .sh (.int i) := by
  unfold partI at h
  split at h
  · cases h; rfl
  · cases h
@[simp] def cutR (g : GS) (x : Sl) (lo hi : Option Int) (s : S) : Option RE := match x.dat with
  | some d => (g d lo hi).map fun r => .val r s
  | none => none
theorem LQ.cut {G : GC} {bs : Bs} {E : XK} {σ : St} {pd : Pd} {Q : VK} {x : Sl} {lo hi : Option Int} {s : S} {v : V} {H : Hp} (h : LQ X.K G bs E σ pd Q (cutR gCut x lo hi s)) (S : SRep X.K G bs σ s.e s.w ((v, x.weak) :: pd) none H) : rCut X.K v lo hi H Q := by
  unfold cutR at h
  cases dx : x.dat with
  | none => rw [dx] at h; exact h.elim
  | some d =>
    rw [dx] at h
    rw [weak_of_dat dx] at S
    simp only at h
    cases hg : gCut d lo hi with
    | none => rw [hg] at h; exact h.elim
    | some R => rw [hg] at h; exact ok_cut S.pop S.topD hg h
@[simp] def dCutLH (t tl th : TEf) : TEf := fun s => eB (t s) fun x s => eB (tl s) fun l s => match partI l with
  | some i => eB (th s) fun u s => match partI u with
    | some j => cutR gCut x (some i) (some j) s
    | _ => none
  | _ => none
@[simp] def dCutL (t tl : TEf) : TEf := fun s => eB (t s) fun x s => eB (tl s) fun l s => match partI l with
  | some i => cutR gCut x (some i) none s
  | _ => none
@[simp] def dCutH (t th : TEf) : TEf := fun s => eB (t s) fun x s => eB (th s) fun u s => match partI u with
  | some j => cutR gCut x none (some j) s
  | _ => none
theorem de_cutLH {E : XK} {a l u : Expr} {ta tl tu : TEf} {p2 pos : Pos} (ha : DE X E a ta) (hl : DE X E l tl) (hu : DE X E u tu) : DE X E (.Subscript a (.Slice (some l) (some u) none p2) pos) (dCutLH ta tl tu) :=
  ⟨fun G bs => (pe_slice sl_all (ha.run G bs) (po_some (hl.run G bs)) (po_some (hu.run G bs))).imp fun σ H Q ⟨e, w, pd, R, h⟩ => ⟨e, w, pd, R, h.first fun x s h v1 x1 H1 R1 r1 => ⟨s.e, s.w, _, R1.push r1, h.first fun y s' h v2 x2 H2 R2 r2 => by
    have R3 := R2.push r2
    cases hp : partI y with
    | none => simp only [hp] at h; exact h.elim
    | some i =>
      simp only [hp] at h
      have ey := partI_some hp
      subst ey
      have e2 := r2.2.int_inv
      refine ⟨i, e2, s'.e, s'.w, _, R3.pop, h.first fun z s2 h v3 x3 H3 R4 r3 => ?_⟩
      have R5 := R4.push r3
      cases hz : partI z with
      | none => simp only [hz] at h; exact h.elim
      | some j =>
        simp only [hz] at h
        have ez := partI_some hz
        subst ez
        exact ⟨j, r3.2.int_inv, h.cut R5.pop⟩⟩⟩⟩
theorem de_cutL {E : XK} {a l : Expr} {ta tl : TEf} {p2 pos : Pos} (ha : DE X E a ta) (hl : DE X E l tl) : DE X E (.Subscript a (.Slice (some l) none none p2) pos) (dCutL ta tl) :=
  ⟨fun G bs => (pe_slice sl_all (ha.run G bs) (po_some (hl.run G bs)) po_none).imp fun σ H Q ⟨e, w, pd, R, h⟩ => ⟨e, w, pd, R, h.first fun x s h v1 x1 H1 R1 r1 => ⟨s.e, s.w, _, R1.push r1, h.first fun y s' h v2 x2 H2 R2 r2 => by
    have R3 := R2.push r2
    cases hp : partI y with
    | none => simp only [hp] at h; exact h.elim
    | some i =>
      simp only [hp] at h
      have ey := partI_some hp
      subst ey
      exact ⟨i, r2.2.int_inv, h.cut R3.pop⟩⟩⟩⟩
theorem de_cutH {E : XK} {a u : Expr} {ta tu : TEf} {p2 pos : Pos} (ha : DE X E a ta) (hu : DE X E u tu) : DE X E (.Subscript a (.Slice none (some u) none p2) pos) (dCutH ta tu) :=
  ⟨fun G bs => (pe_slice sl_all (ha.run G bs) po_none (po_some (hu.run G bs))).imp fun σ H Q ⟨e, w, pd, R, h⟩ => ⟨e, w, pd, R, h.first fun x s h v1 x1 H1 R1 r1 => ⟨s.e, s.w, _, R1.push r1, h.first fun y s' h v2 x2 H2 R2 r2 => by
    have R3 := R2.push r2
    cases hp : partI y with
    | none => simp only [hp] at h; exact h.elim
    | some i =>
      simp only [hp] at h
      have ey := partI_some hp
      subst ey
      exact ⟨i, r2.2.int_inv, h.cut R3.pop⟩⟩⟩⟩
end
end DL

end

section -- DL11
set_option Elab.async false
set_option linter.all false
set_option maxRecDepth 100000
set_option maxHeartbeats 2000000
/-! DL11: built-in functions, methods, name op= e. -/
namespace DL
open PySem PySem.Spec L2

section
variable {X : Cx}
theorem RepAll.one {K : PySem.W.Frag} {Av : AS} {H : Hp} {vs : List V} {d : D} (r : RepAll K Av H vs [d]) : ∃ v, vs = [v] ∧ Rep K Av H v d := by
  cases r with
  | cons r t => cases t; exact ⟨_, rfl, r⟩
theorem RepAll.two {K : PySem.W.Frag} {Av : AS} {H : Hp} {vs : List V} {d1 d2 : D} (r : RepAll K Av H vs [d1, d2]) : ∃ v1 v2, vs = [v1, v2] ∧ Rep K Av H v1 d1 ∧ Rep K Av H v2 d2 := by
  cases r with
  | cons r t =>
    obtain ⟨v2, e, r2⟩ := t.one
    subst e
    exact ⟨_, _, rfl, r, r2⟩
/-! ### len -/
def gLen : GL := fun ds => match ds with
  | [.lst l] => some (.sh (.int l.length))
  | [.tup l] => some (.sh (.int l.length))
  | [.str z] => if z.length ≤ 16777216 then some (.sh (.int z.length)) else none
  | _ => none
@[simp] theorem gLen_lst (l : List D) : gLen [.lst l] = some (.sh (.int l.length)) := rfl
@[simp] theorem gLen_tup (l : List D) : gLen [.tup l] = some (.sh (.int l.length)) := rfl
@[simp] theorem gLen_str (z : Str) : gLen [.str z] = if z.length ≤ 16777216 then some (.sh (.int z.length)) else none := rfl
def rLen (K : PySem.W.Frag) : List V → Hp → VK → Prop := fun xs H Q => (∃ p ys, xs = [.ref p] ∧ (SqL K H p ys ∨ SqT K H p ys) ∧ Q (.int ys.length) H) ∨ ∃ z, xs = [.str z] ∧ z.length ≤ sizeLine ∧ Q (.int z.length) H
theorem call_len : CallR X (.builtin "len") (rLen X.K) := call_len_seq.or call_len_str
theorem ok_len : CallOk X (rLen X.K) gLen := by
  intro G bs σ e w pd H vs ds R Q S r hg q
  unfold gLen at hg
  split at hg
  · cases hg
    obtain ⟨v, e1, r1⟩ := r.one
    obtain ⟨a, xs, e2, h1, z1⟩ := r1.lst_inv
    subst e1; subst e2
    refine .inl ⟨a, xs, rfl, .inl h1.sq, ?_⟩
    rw [z1.length]
    exact q.int S
  · cases hg
    obtain ⟨v, e1, r1⟩ := r.one
    obtain ⟨a, xs, e2, h1, z1⟩ := r1.tup_inv
    subst e1; subst e2
    refine .inl ⟨a, xs, rfl, .inr h1.sq, ?_⟩
    rw [z1.length]
    exact q.int S
  · split at hg
    · rename_i hz
      cases hg
      obtain ⟨v, e1, r1⟩ := r.one
      subst e1
      exact .inr ⟨_, by rw [r1.str_inv], size16.mp hz, q.int S⟩
    · cases hg
  · cases hg
/-! ### tuple(x), list(x) -/
def gTuple : GL := fun ds => match ds with
  | [.lst l] => some (.sh (.tup l))
  | [.tup l] => some (.sh (.tup l))
  | _ => none
@[simp] theorem gTuple_lst (l : List D) : gTuple [.lst l] = some (.sh (.tup l)) := rfl
@[simp] theorem gTuple_tup (l : List D) : gTuple [.tup l] = some (.sh (.tup l)) := rfl
def rTuple (K : PySem.W.Frag) : List V → Hp → VK → Prop := fun xs H Q => ∃ p ys, xs = [.ref p] ∧ ((SqL K H p ys ∧ ∀ l, H l = none → Q (.ref l) (upd H l (.tup ys))) ∨ (SqT K H p ys ∧ Q (.ref p) H))
theorem call_tuple : CallR X (.type "tuple") (rTuple X.K) := call_tuple_of
theorem ok_tuple : CallOk X (rTuple X.K) gTuple := by
  intro G bs σ e w pd H vs ds R Q S r hg q
  unfold gTuple at hg
  split at hg
  · cases hg
    obtain ⟨v, e1, r1⟩ := r.one
    obtain ⟨a, xs, e2, h1, z1⟩ := r1.lst_inv
    subst e1; subst e2
    exact ⟨a, xs, rfl, .inl ⟨h1.sq, fun l hl => q.tup S z1 hl⟩⟩
  · cases hg
    obtain ⟨v, e1, r1⟩ := r.one
    have r0 := r1
    obtain ⟨a, xs, e2, h1, z1⟩ := r1.tup_inv
    subst e1; subst e2
    exact ⟨a, xs, rfl, .inr ⟨h1.sq, q.rep S r0⟩⟩
  · cases hg
def signs (z : Str) : List D := z.cps.toList.map fun c => .str ⟨#[c]⟩
def gList : GL := fun ds => match ds with
  | [.lst l] => some (.own (.lst l))
  | [.tup l] => some (.own (.lst l))
  | _ => none
@[simp] theorem gList_lst (l : List D) : gList [.lst l] = some (.own (.lst l)) := rfl
@[simp] theorem gList_tup (l : List D) : gList [.tup l] = some (.own (.lst l)) := rfl
def rList (K : PySem.W.Frag) : List V → Hp → VK → Prop := fun xs H Q => ∃ p ys, xs = [.ref p] ∧ (SqL K H p ys ∨ SqT K H p ys) ∧ ∀ l, H l = none → Q (.ref l) (upd H l (.lst ys))
theorem call_list : CallR X (.type "list") (rList X.K) := call_list_of
theorem ok_list : CallOk X (rList X.K) gList := by
  intro G bs σ e w pd H vs ds R Q S r hg q
  unfold gList at hg
  split at hg
  · cases hg
    obtain ⟨v, e1, r1⟩ := r.one
    obtain ⟨a, xs, e2, h1, z1⟩ := r1.lst_inv
    subst e1; subst e2
    exact ⟨a, xs, rfl, .inl h1.sq, fun l hl => q.lst S z1 hl⟩
  · cases hg
    obtain ⟨v, e1, r1⟩ := r.one
    obtain ⟨a, xs, e2, h1, z1⟩ := r1.tup_inv
    subst e1; subst e2
    exact ⟨a, xs, rfl, .inr h1.sq, fun l hl => q.lst S z1 hl⟩
  · cases hg
/-! ### isinstance(x, T), T built-in -/
def dTy : D → Option String
  | .non => some "NoneType"
  | .bl _ => some "bool"
  | .int _ => some "int"
  | .str _ => some "str"
  | .tup _ => some "tuple"
  | .lst _ => some "list"
  | .dk _ => some "dict"
  | .dt _ => some "dict"
  | .raw _ => none
  | .fn _ _ _ _ _ => none
  | .exn0 _ => none
  | .exn1 _ _ _ => none
theorem Rep.tyx {K : PySem.W.Frag} {Av : AS} {H : Hp} {v : V} {d : D} {t : String} (r : Rep K Av H v d) (h : dTy d = some t) : TyX K H v (.type t) := by
  cases r with
  | non => cases h; exact .base .non
  | bl b => cases h; exact .base (.bl b)
  | int b => cases h; exact .base (.int b)
  | str b => cases h; exact .base (.str b)
  | raw v => cases h
  | fn _ _ _ => cases h
  | exn0 _ _ => cases h
  | exn1 _ _ _ _ _ => cases h
  | tup s r =>
    cases h
    rcases s with ⟨s | ⟨o, s⟩, _⟩ | ⟨o, its, n, s, c, _⟩
    · exact .base (.tup s)
    · exact .fTuple s
    · exact .kTuple s c
  | lst s r =>
    cases h
    rcases s with ⟨s | ⟨o, s⟩, _⟩ | ⟨o, its, n, s, c, _⟩
    · exact .base (.lst s)
    · exact .base (.frz s)
    · exact .kList s c
  | dk s n r => cases h; exact .base (.dK s)
  | dt s n r => cases h; exact .base (.dT s)
@[simp] def gIsi : GL := fun ds => match ds with
  | [d, .raw (.ty T)] => match dTy d with
    | some t => (kitB t T).map fun b => .sh (.bl b)
    | none => none
  | _ => none
theorem call_isiA : CallR X (.builtin "isinstance") (rIsi X.K) := call_isi
theorem ok_isi : CallOk X (rIsi X.K) gIsi := by
  intro G bs σ e w pd H vs ds R Q S r hg q
  unfold gIsi at hg
  split at hg
  · rename_i d T
    obtain ⟨v1, v2, e1, r1, r2⟩ := r.two
    subst e1
    cases ht : dTy d with
    | none => rw [ht] at hg; cases hg
    | some t =>
      rw [ht] at hg
      simp only at hg
      cases hk : kitB t T with
      | none => rw [hk] at hg; cases hg
      | some b =>
        rw [hk] at hg
        cases hg
        rw [r2.raw_inv]
        exact ⟨v1, .ty T, .type t, .type T, b, rfl, .ty T, r1.tyx ht, kit_ty hk, q.bl S⟩
  · cases hg
/-- a built-in class by its name -/
theorem de_ty {E : XK} {x : Str} {T : String} {pos : Pos} (hg : Gl X x) (hm : X.mg x = none) (hv : bootBuiltins x = some (.type T)) (hn : x ≠ "__name__" := by decide) (hd : (x == ("__debug__" : Str)) = false := by decide) : DE X E (.Name x pos) (dC (.raw (.ty T))) :=
  .ofC (pe_bltn (v := .ty T) hg hm hv rfl hn hd) fun _ _ => .raw _
/-! ### repr -/
def reprD (d : D) : Option Str := match toPy d with
  | some p => if (p.showable && !p.hasDict && decide (p.depth ≤ 64) && decide (p.shown.length ≤ 16777216)) = true then some p.shown else none
  | none => none
def gRepr : GL := fun ds => match ds with
  | [d] => (reprD d).map fun t => .sh (.str t)
  | _ => none
def rRepr (K : PySem.W.Frag) : List V → Hp → VK → Prop := fun xs H Q => ∃ v d, xs = [v] ∧ Dp K H v d ∧ d.showable = true ∧ d.hasDict = false ∧ d.depth ≤ 64 ∧ d.shown.length ≤ 16777216 ∧ Q (.str d.shown) H
theorem call_repr {k : Nat} (hr : Rm k X.A) : CallR X (.builtin "repr") (rRepr X.K) := by
  intro pins s σ H xs us Q I r ⟨v, d, e, hd, h1, h2, h3, h4, q⟩
  subst e
  obtain ⟨u, e, rv⟩ := vals1 r
  subst e
  have big := size16.mp h4
  cases hd with
  | non => cases rv; exact PySem.P.repr_of_none ⟨.str _, H, I.tok _, ⟨_, rfl⟩, by rw [PyData.shown] at q; exact q⟩
  | bl b => cases rv; exact PySem.P.repr_of_bool ⟨.str _, H, I.tok _, ⟨_, rfl⟩, by rw [PyData.shown] at q; exact q⟩
  | int i =>
    obtain ⟨t, rfl⟩ := rv
    rw [PyData.showable] at h1
    exact PySem.P.repr_of_int (of_decide_eq_true h1) ⟨.str _, H, I.tok _, ⟨_, rfl⟩, by rw [PyData.shown] at q; exact q⟩
  | str x =>
    obtain ⟨t, rfl⟩ := rv
    rw [PyData.shown] at big q
    exact PySem.P.repr_of_str ⟨.str _, H, I.tok _, ⟨_, rfl⟩, q⟩ big
  | lst a b =>
    obtain ⟨as, rd⟩ := Dp.reads I _ _ _ (.lst a b) rv
    cases rv
    refine repr_of_reads' rd h1 (PyData.noDict_hsm h2) hr.gd (by have := hr.rm.un; omega) (fun b o e => e) (fun h' u tk hk => ?_) big
    exact ⟨.str _, H, I.kept (t' := tk) hk, ⟨u, rfl⟩, q⟩
  | tup a b =>
    obtain ⟨as, rd⟩ := Dp.reads I _ _ _ (.tup a b) rv
    cases rv
    refine repr_of_reads' rd h1 (PyData.noDict_hsm h2) hr.gd (by have := hr.rm.un; omega) (fun b o e => e) (fun h' u tk hk => ?_) big
    exact ⟨.str _, H, I.kept (t' := tk) hk, ⟨u, rfl⟩, q⟩
theorem ok_repr : CallOk X (rRepr X.K) gRepr := by
  intro G bs σ e w pd H vs ds R Q S r hg q
  unfold gRepr at hg
  split at hg
  · rename_i d
    obtain ⟨v, e1, r1⟩ := r.one
    unfold reprD at hg
    cases hp : toPy d with
    | none => rw [hp] at hg; cases hg
    | some p =>
      rw [hp] at hg
      simp only at hg
      by_cases hz : (p.showable && !p.hasDict && decide (p.depth ≤ 64) && decide (p.shown.length ≤ 16777216)) = true
      · rw [if_pos hz] at hg
        cases hg
        simp only [Bool.and_eq_true, Bool.not_eq_true', decide_eq_true_eq] at hz
        exact ⟨v, p, e1, r1.dp hp, hz.1.1.1, hz.1.1.2, hz.1.2, hz.2, q.str S⟩
      · rw [if_neg hz] at hg; cases hg
  · cases hg
/-! ### abs, int, min, max -/
def gAbs : GL := fun ds => match ds with
  | [.int i] => some (.sh (.int (if i < 0 then -i else i)))
  | _ => none
@[simp] theorem gAbs_int (i : Int) : gAbs [.int i] = some (.sh (.int (if i < 0 then -i else i))) := rfl
def rAbs : List V → Hp → VK → Prop := fun xs H Q => ∃ i, xs = [.int i] ∧ Q (.int (if i < 0 then -i else i)) H
theorem call_abs1 : CallR X (.builtin "abs") rAbs := call_abs
theorem ok_abs : CallOk X rAbs gAbs := by
  intro G bs σ e w pd H vs ds R Q S r hg q
  unfold gAbs at hg
  split at hg
  · cases hg
    obtain ⟨v, e1, r1⟩ := r.one
    exact ⟨_, by rw [e1, r1.int_inv], q.int S⟩
  · cases hg
def gInt : GL := fun ds => match ds with
  | [.int i] => some (.sh (.int i))
  | _ => none
@[simp] theorem gInt_int (i : Int) : gInt [.int i] = some (.sh (.int i)) := rfl
def rInt : List V → Hp → VK → Prop := fun xs H Q => (∃ i, xs = [.int i] ∧ Q (.int i) H) ∨ ∃ k, xs = [.bl k] ∧ Q (.int (if k then 1 else 0)) H
theorem call_int : CallR X (.type "int") rInt := call_int1
theorem ok_int : CallOk X rInt gInt := by
  intro G bs σ e w pd H vs ds R Q S r hg q
  unfold gInt at hg
  split at hg
  · cases hg
    obtain ⟨v, e1, r1⟩ := r.one
    exact .inl ⟨_, by rw [e1, r1.int_inv], q.int S⟩
  · cases hg
def gMin : GL := fun ds => match ds with
  | [.int i, .int j] => some (.sh (.int (if j < i then j else i)))
  | _ => none
@[simp] theorem gMin_int (i j : Int) : gMin [.int i, .int j] = some (.sh (.int (if j < i then j else i))) := rfl
def rMin : List V → Hp → VK → Prop := fun xs H Q => ∃ i j, xs = [.int i, .int j] ∧ Q (.int (if j < i then j else i)) H
theorem call_min (hc : X.calm = true) : CallR X (.builtin "min") rMin := call_min2 hc
theorem ok_min : CallOk X rMin gMin := by
  intro G bs σ e w pd H vs ds R Q S r hg q
  unfold gMin at hg
  split at hg
  · cases hg
    obtain ⟨v1, v2, e1, r1, r2⟩ := r.two
    exact ⟨_, _, by rw [e1, r1.int_inv, r2.int_inv], q.int S⟩
  · cases hg
def gMax : GL := fun ds => match ds with
  | [.int i, .int j] => some (.sh (.int (if j > i then j else i)))
  | _ => none
@[simp] theorem gMax_int (i j : Int) : gMax [.int i, .int j] = some (.sh (.int (if j > i then j else i))) := rfl
def rMax : List V → Hp → VK → Prop := fun xs H Q => ∃ i j, xs = [.int i, .int j] ∧ Q (.int (if j > i then j else i)) H
theorem call_max (hc : X.calm = true) : CallR X (.builtin "max") rMax := call_max2 hc
theorem ok_max : CallOk X rMax gMax := by
  intro G bs σ e w pd H vs ds R Q S r hg q
  unfold gMax at hg
  split at hg
  · cases hg
    obtain ⟨v1, v2, e1, r1, r2⟩ := r.two
    exact ⟨_, _, by rw [e1, r1.int_inv, r2.int_inv], q.int S⟩
  · cases hg

/-! ### methods of a text -/
@[simp] def isStr : D → Bool
  | .str _ => true
  | _ => false
theorem ty_str {K : PySem.W.Frag} : TyOk K "str" isStr := by
  intro Av H v d h r
  cases r <;> first
    | rfl
    | cases h
def gStr0 (f : Str → D) : GL := fun ds => match ds with
  | [.str a] => some (.sh (f a))
  | _ => none
@[simp] theorem gStr0_str (f : Str → D) (a : Str) : gStr0 f [.str a] = some (.sh (f a)) := rfl
def rStrB (f : Str → Bool) : V → List V → Hp → VK → Prop := fun x xs H Q => ∃ a, x = .str a ∧ xs = [] ∧ True ∧ Q (.bl (f a)) H
theorem ok_strB {f : Str → Bool} : MetOk X (rStrB f) (gStr0 fun a => .bl (f a)) := by
  intro G bs σ e w pd H v vs d ds R Q S r rs hg q
  cases ds with
  | cons _ _ => simp [gStr0] at hg
  | nil =>
    cases rs
    cases d with
    | str a => cases hg; exact ⟨a, r.str_inv, rfl, True.intro, q.bl S⟩
    | _ => simp [gStr0] at hg
theorem de_isalpha {E : XK} {o : Expr} {t : TEf} {apos cpos : Pos} (ho : DE X E o t) (hb : attributeBase o "isalpha" X.env (eval o X.env) = eval o X.env := by rfl) (hl : (apos.endLine == cpos.line) = true := by rfl) :
    DE X E (.Call (.Attribute o "isalpha" apos) [] [] cpos) (dBM0 isStr (gStr0 fun a => .bl (Txt.isalpha a)) t) := de_bm0 PySem.F.plainAttrs_str PySem.F.slot_str_isalpha PySem.F.type_str_isalpha mt_isalpha ok_strB ty_str ho hb hl
theorem de_isdigit {E : XK} {o : Expr} {t : TEf} {apos cpos : Pos} (ho : DE X E o t) (hb : attributeBase o "isdigit" X.env (eval o X.env) = eval o X.env := by rfl) (hl : (apos.endLine == cpos.line) = true := by rfl) :
    DE X E (.Call (.Attribute o "isdigit" apos) [] [] cpos) (dBM0 isStr (gStr0 fun a => .bl (Txt.isdigit a)) t) := de_bm0 PySem.F.plainAttrs_str PySem.F.slot_str_isdigit PySem.F.type_str_isdigit mt_isdigit ok_strB ty_str ho hb hl
/-! ### join -/
def strsOf : List D → Option (List Str)
  | [] => some []
  | .str x :: r => (strsOf r).map (x :: ·)
  | _ => none
@[simp] theorem strsOf_nil : strsOf [] = some [] := rfl
@[simp] theorem strsOf_cons (x : Str) (r : List D) : strsOf (.str x :: r) = (strsOf r).map (x :: ·) := rfl
@[simp] theorem strsOf_map : ∀ l : List Str, strsOf (l.map D.str) = some l
  | [] => rfl
  | x :: l => by rw [List.map_cons, strsOf_cons, strsOf_map l]; rfl
theorem RepAll.strs {K : PySem.W.Frag} {Av : AS} {H : Hp} : ∀ {vs : List V} {ds : List D} {ys : List Str}, RepAll K Av H vs ds → strsOf ds = some ys → vs = ys.map V.str
  | _, _, _, .nil, h => by cases h; rfl
  | _, _, _, .cons (d := d) (ds := ds) r t, h => by
    cases d with
    | str x =>
      rw [strsOf_cons] at h
      cases q : strsOf ds with
      | none => rw [q] at h; cases h
      | some zs => rw [q] at h; cases h; rw [r.str_inv, t.strs q]; rfl
    | _ => simp [strsOf] at h
def joinD (a : Str) (l : List D) : Option Sl := match strsOf l with
  | some ys => if (ys.map (·.length)).sum + ys.length * a.length ≤ 16777216 then some (.sh (.str (Txt.join a ys))) else none
  | none => none
def gJoin : GL := fun ds => match ds with
  | [.str a, .lst l] => joinD a l
  | [.str a, .tup l] => joinD a l
  | _ => none
@[simp] theorem gJoin_lst (a : Str) (l : List D) : gJoin [.str a, .lst l] = joinD a l := rfl
@[simp] theorem gJoin_tup (a : Str) (l : List D) : gJoin [.str a, .tup l] = joinD a l := rfl
def rJoin (K : PySem.W.Frag) : V → List V → Hp → VK → Prop := fun x xs H Q => ∃ a p, ∃ ys : List Str, x = .str a ∧ xs = [.ref p] ∧ (SqL K H p (ys.map V.str) ∨ SqT K H p (ys.map V.str)) ∧
    (ys.map (·.length)).sum + ys.length * a.length ≤ 16777216 ∧ Q (.str (Txt.join a ys)) H
theorem ok_join : MetOk X (rJoin X.K) gJoin := by
  intro G bs σ e w pd H v vs d ds R Q S r rs hg q
  have fin : ∀ a l, joinD a l = some R → ∃ ys, strsOf l = some ys ∧ (ys.map (·.length)).sum + ys.length * a.length ≤ 16777216 ∧ R = .sh (.str (Txt.join a ys)) := fun a l h => by
    unfold joinD at h
    cases hs : strsOf l with
    | none => rw [hs] at h; cases h
    | some ys =>
      rw [hs] at h
      simp only at h
      by_cases hz : (ys.map (·.length)).sum + ys.length * a.length ≤ 16777216
      · rw [if_pos hz] at h; cases h; exact ⟨ys, rfl, hz, rfl⟩
      · rw [if_neg hz] at h; cases h
  match d, ds, r, rs, hg with
  | .str a, [.lst l], r, rs, hg =>
    obtain ⟨ys, h1, h2, h3⟩ := fin a l hg
    subst h3
    obtain ⟨v1, e1, r1⟩ := rs.one
    obtain ⟨p, xs, e2, s1, z1⟩ := r1.lst_inv
    subst e1; subst e2
    have e3 := z1.strs h1
    subst e3
    exact ⟨a, p, ys, r.str_inv, rfl, .inl s1.sq, h2, q.str S⟩
  | .str a, [.tup l], r, rs, hg =>
    obtain ⟨ys, h1, h2, h3⟩ := fin a l hg
    subst h3
    obtain ⟨v1, e1, r1⟩ := rs.one
    obtain ⟨p, xs, e2, s1, z1⟩ := r1.tup_inv
    subst e1; subst e2
    have e3 := z1.strs h1
    subst e3
    exact ⟨a, p, ys, r.str_inv, rfl, .inr s1.sq, h2, q.str S⟩
theorem de_join {E : XK} {o a : Expr} {t : TEf} {u : TAf} {apos cpos : Pos} (ho : DE X E o t) (ha : DA X E [a] u) (hbase : attributeBase o "join" X.env (eval o X.env) = eval o X.env := by rfl)
    (hfew : ((backTo cpos (starEach [a] X.env)).all (fun x => !x.1) && (backToKw cpos (keywordEach [] X.env)).all (fun x => x.1.isSome)
      && decide ([a].length + ([] : List Keyword).length + (if ([] : List Keyword).isEmpty then 0 else 1) < 30)) = true := by rfl)
    (hline : (apos.endLine == cpos.line) = true := by rfl) (hs : starEach [a] X.env = (false, eval a X.env) :: starEach [] X.env := by rfl) :
    DE X E (.Call (.Attribute o "join" apos) [a] [] cpos) (dBM isStr gJoin t u) := de_bm PySem.F.plainAttrs_str PySem.F.slot_str_join PySem.F.type_str_join mt_join ok_join ty_str ho ha hbase hfew hline hs

/-! ### name op= e -/
@[simp] def dAugI (i : Nat) (f : Int → Int → Int) (t : TEf) : TSf := fun s => match s.e[i]? with
  | some (.sh (.int a)) => eS (t s) fun y s => match y with
    | .sh (.int b) => if i < s.e.length then some (.nx ⟨s.w, (calmE s.e).set i (.sh (.int (f a b)))⟩) else none
    | _ => none
  | _ => none
theorem ds_augI {E : XK} {i : Nat} {x : Str} {e : Expr} {t : TEf} {op : Operator} {f : Int → Int → Int} {pos pos' : Pos} (hN : X.N.Nodup) (hi : X.N[i]? = some x) (hx : Loc X.env.scope x) (ho : PIp X op (ipI f)) (he : DE X E e t)
    (hf : X.fn x = true ∨ X.env.scope.names.lookup x = some .local := by first | exact .inl rfl | exact .inr rfl | assumption) : DS X E (.AugAssign (.Name x pos') op e pos) (dAugI i f t) :=
  ⟨fun G bs => (ps_aug hN hi hx (he.run G bs) ho hf).imp fun D σ H ⟨s, R, q⟩ => by
    unfold dAugI at q
    match h1 : s.e[i]? with
    | some (.sh (.int a)) =>
      simp only [h1] at q
      obtain ⟨v, e1, r⟩ := R.1.getSh h1
      have ev := r.2.int_inv
      subst ev
      refine ⟨_, e1, s.e, s.w, [], R.1, q.first fun y s2 q v2 x2 H2 R2 r2 => ?_⟩
      match y, q, r2 with
      | .sh (.int b), q, r2 =>
        have e2 := r2.2.int_inv
        subst e2
        simp only at q
        by_cases hl : i < s2.e.length
        · rw [if_pos hl] at q
          refine ⟨a, b, rfl, rfl, ?_⟩
          have ex : x2 = none := r2.1
          subst ex
          have C := R2.calm
          exact q _ H2 (C.1.store C.2 (r := .sh (.int (f a b))) (v := .int (f a b)) ⟨rfl, .int _⟩ (by unfold calmE; rw [settle_length]; exact hl))
        · rw [if_neg hl] at q; exact q.elim
      | .no, q, _ => exact q.elim
      | .own _, q, _ => exact q.elim
      | .lck _, q, _ => exact q.elim
      | .dr, q, _ => exact q.elim
      | .sh .non, q, _ => exact q.elim
      | .sh (.bl _), q, _ => exact q.elim
      | .sh (.str _), q, _ => exact q.elim
      | .sh (.tup _), q, _ => exact q.elim
      | .sh (.lst _), q, _ => exact q.elim
      | .sh (.dk _), q, _ => exact q.elim
      | .sh (.dt _), q, _ => exact q.elim
      | .sh (.raw _), q, _ => exact q.elim
      | .sh (.fn _ _ _ _ _), q, _ => exact q.elim
      | .sh (.exn0 _), q, _ => exact q.elim
      | .sh (.exn1 _ _ _), q, _ => exact q.elim
    | none => simp only [h1] at q; exact q.elim
    | some .no => simp only [h1] at q; exact q.elim
    | some (.own _) => simp only [h1] at q; exact q.elim
    | some (.lck _) => simp only [h1] at q; exact q.elim
    | some .dr => simp only [h1] at q; exact q.elim
    | some (.sh .non) => simp only [h1] at q; exact q.elim
    | some (.sh (.bl _)) => simp only [h1] at q; exact q.elim
    | some (.sh (.str _)) => simp only [h1] at q; exact q.elim
    | some (.sh (.tup _)) => simp only [h1] at q; exact q.elim
    | some (.sh (.lst _)) => simp only [h1] at q; exact q.elim
    | some (.sh (.dk _)) => simp only [h1] at q; exact q.elim
    | some (.sh (.dt _)) => simp only [h1] at q; exact q.elim
    | some (.sh (.raw _)) => simp only [h1] at q; exact q.elim
    | some (.sh (.fn _ _ _ _ _)) => simp only [h1] at q; exact q.elim
    | some (.sh (.exn0 _)) => simp only [h1] at q; exact q.elim
    | some (.sh (.exn1 _ _ _)) => simp only [h1] at q; exact q.elim⟩
end
end DL

end

section -- DL12
set_option Elab.async false
set_option linter.all false
set_option maxRecDepth 100000
set_option maxHeartbeats 2000000
/-! DL12: the record of draws: read, written, popped, walked, made. -/
namespace DL
open PySem PySem.Spec L2

theorem Rm.one {k : Nat} {A : Around} (r : Rm k A) : A.units + 1 < cLine := by have := r.rm.un; omega
abbrev kRest : Key := .inr "rest"
abbrev drKvs (r : Dr) (w : W) : List (Key × V) := [(.inr "large", .ref r.l), (.inr "cells", .ref r.c), (.inr "rest", .int w.rest), (.inr w.key, .int w.turn)]
/-- the last key is another than the first three -/
def keyOk (k : Str) : Bool := !(k == "large") && !(k == "cells") && !(k == "rest")
theorem s_lc : ("large" : Str) ≠ "cells" := by decide
theorem s_lr : ("large" : Str) ≠ "rest" := by decide
theorem s_cr : ("cells" : Str) ≠ "rest" := by decide
theorem inr_ne {a b : Str} (h : a ≠ b) : ¬ ((Sum.inr b : Key) = .inr a) := fun z => h (Sum.inr.inj z).symm
theorem val_large {r : Dr} {w : W} : valV (drKvs r w) (.inr "large") = some (.ref r.l) := valV_pos rfl
theorem val_cells {r : Dr} {w : W} : valV (drKvs r w) (.inr "cells") = some (.ref r.c) := by
  unfold drKvs
  rw [valV_neg (inr_ne s_lc.symm), valV_pos rfl]
theorem val_rest {r : Dr} {w : W} : valV (drKvs r w) (.inr "rest") = some (.int w.rest) := by
  unfold drKvs
  rw [valV_neg (inr_ne s_lr.symm), valV_neg (inr_ne s_cr.symm), valV_pos rfl]
theorem keyOk_ne {k : Str} (h : keyOk k = true) : k ≠ "large" ∧ k ≠ "cells" ∧ k ≠ "rest" := by
  unfold keyOk at h
  simp only [Bool.and_eq_true, Bool.not_eq_true', beq_eq_false_iff_ne] at h
  exact ⟨h.1.1, h.1.2, h.2⟩
theorem val_turn {r : Dr} {w : W} (h : keyOk w.key = true) : valV (drKvs r w) (.inr w.key) = some (.int w.turn) := by
  obtain ⟨h1, h2, h3⟩ := keyOk_ne h
  unfold drKvs
  rw [valV_neg (inr_ne h1), valV_neg (inr_ne h2), valV_neg (inr_ne h3), valV_pos rfl]
theorem put_rest {r : Dr} {w : W} {i : Int} (h : keyOk w.key = true) : putK (drKvs r w) (.inr "rest") (.int i) = drKvs r { w with rest := i } := by
  obtain ⟨h1, h2, h3⟩ := keyOk_ne h
  unfold putK
  rw [if_pos (by simp [drKvs])]
  simp [drKvs, h3, s_lr, s_cr]
theorem put_turn {r : Dr} {w : W} {i : Int} (h : keyOk w.key = true) : putK (drKvs r w) (.inr w.key) (.int i) = drKvs r { w with turn := i } := by
  obtain ⟨h1, h2, h3⟩ := keyOk_ne h
  unfold putK
  rw [if_pos (by simp [drKvs])]
  simp [drKvs, h1.symm, h2.symm, h3.symm]
section
variable {X : Cx} {E : XK}
section
variable {K : PySem.W.Frag} {G : GC} {bs : Bs} {σ : St} {e : List Sl} {w w' : W} {pd : Pd} {x : Option Addr} {H : Hp} {r : Dr}
theorem SRep.dr_ne (R : SRep K G bs σ e w pd x H) (hr : G.dr = some r) : r.d ≠ r.l ∧ r.d ≠ r.c ∧ r.l ≠ r.c := by
  obtain ⟨h1, h2, h3, h4, _⟩ := R.wr.2 r hr
  refine ⟨fun z => ?_, fun z => ?_, h4⟩
  · rw [z, h2] at h1; cases h1
  · rw [z, h3] at h1; cases h1
theorem drs_d (hr : G.dr = some r) : DrS G.dr r.d := ⟨r, hr, .inl rfl⟩
theorem drs_l (hr : G.dr = some r) : DrS G.dr r.l := ⟨r, hr, .inr (.inl rfl)⟩
theorem ch_at {S : AS} {a : Addr} {o : HO} (h : S a) : Ch S H (upd H a o) := fun b u n q => by
  rw [upd_ne (fun z => n (by rw [z]; exact h))]; exact q
/-- the record's own dict is written -/
theorem SRep.setD (R : SRep K G bs σ e w pd x H) (hr : G.dr = some r) (hl : w'.large = w.large) (hc : w'.cells = w.cells) (ht : w'.T = w.T) : SRep K G bs σ e w' pd x (upd H r.d (.dK (drKvs r w'))) := by
  obtain ⟨h1, h2, h3, h4, h5⟩ := R.wr.2 r hr
  obtain ⟨n1, n2, n3⟩ := R.dr_ne hr
  refine R.grow (ch_at (drs_d hr)) ⟨by rw [ht]; exact R.wr.1, fun q hq => ?_⟩
  rw [hr] at hq
  cases hq
  exact ⟨upd_same, by rw [upd_ne n1.symm, hl]; exact h2, by rw [upd_ne n2.symm, hc]; exact h3, h4, tabs_mut h5 (.inr (.inl ⟨_, h1⟩))⟩
/-- its first list is written -/
theorem SRep.setL {ls : List Int} (R : SRep K G bs σ e w pd x H) (hr : G.dr = some r) : SRep K G bs σ e { w with large := ls } pd x (upd H r.l (.lst (ls.map V.int))) := by
  obtain ⟨h1, h2, h3, h4, h5⟩ := R.wr.2 r hr
  obtain ⟨n1, n2, n3⟩ := R.dr_ne hr
  refine R.grow (ch_at (drs_l hr)) ⟨R.wr.1, fun q hq => ?_⟩
  rw [hr] at hq
  cases hq
  exact ⟨by rw [upd_ne n1]; exact h1, upd_same, by rw [upd_ne n3.symm]; exact h3, h4, tabs_mut h5 (.inl ⟨_, h2⟩)⟩
theorem SRep.dk (R : SRep K G bs σ e w pd x H) (hr : G.dr = some r) : H r.d = some (.dK (drKvs r w)) := (R.wr.2 r hr).1
end
/-! ### reading -/
@[simp] def dDrRest (i : Nat) : TEf := fun s => match s.e[i]? with
  | some .dr => some (.val (.sh (.int s.w.rest)) s)
  | _ => none
@[simp] def dDrTurn (i : Nat) (k : Str) : TEf := fun s => match s.e[i]? with
  | some .dr => if (keyOk s.w.key && decide (s.w.key = k)) = true then some (.val (.sh (.int s.w.turn)) s) else none
  | _ => none
theorem slot_dr {e : List Sl} {i : Nat} {α : Type} {f : α} {t : Option α} (h : (match e[i]? with
  | some .dr => t
  | _ => none) = some f) : e[i]? = some .dr ∧ t = some f := by
  split at h
  · rename_i q; exact ⟨q, h⟩
  · cases h
theorem SRep.dr_at {K : PySem.W.Frag} {G : GC} {bs : Bs} {σ : St} {e : List Sl} {w : W} {pd : Pd} {H : Hp} {i : Nat} (R : SRep K G bs σ e w pd none H) (h : e[i]? = some .dr) : ∃ r, G.dr = some r ∧ σ[i]? = some (some (.ref r.d)) := by
  obtain ⟨v, e1, _, r, hr, ev⟩ := R.getDr h
  exact ⟨r, hr, by rw [e1, ev]⟩
theorem de_drRest {k i : Nat} {x : Str} {j : Nat} {p1 p2 pos : Pos} (hr : Rm k X.A) (hN : X.N[i]? = some x) (hv : Vis X.env.scope x) (hd : (x == ("__debug__" : Str)) = false := by decide)
    (hcd : (x == ("__classdict__" : Str)) = false := by decide) (hs : NoSl (.Constant (.str "rest") j p2) := by intros _ _; rfl) : DE X E (.Subscript (.Name x p1) (.Constant (.str "rest") j p2) pos) (dDrRest i) :=
  ⟨fun G bs => (pe_dget hr.one (pe_var hN hv hd hcd) pe_str hs).imp fun σ H Q ⟨e, w, pd, R, h⟩ => by
    unfold dDrRest at h
    cases hq : (match (⟨w, e⟩ : S).e[i]? with
      | some .dr => some (RE.val (.sh (.int (⟨w, e⟩ : S).w.rest)) ⟨w, e⟩)
      | _ => none) with
    | none => rw [hq] at h; exact h.elim
    | some f =>
      rw [hq] at h
      obtain ⟨h1, h2⟩ := slot_dr hq
      cases h2
      obtain ⟨r, hdr, e1⟩ := R.dr_at h1
      refine ⟨_, e1, r.d, .int w.rest, rfl, ?_, h _ none H R ⟨rfl, .int _⟩⟩
      rw [← val_rest (r := r)]
      exact DGet.k (k := .inr "rest") (R.dk hdr)⟩
theorem de_drTurn {k i : Nat} {x ky : Str} {j : Nat} {p1 p2 pos : Pos} (hr : Rm k X.A) (hN : X.N[i]? = some x) (hv : Vis X.env.scope x) (hd : (x == ("__debug__" : Str)) = false := by decide)
    (hcd : (x == ("__classdict__" : Str)) = false := by decide) (hs : NoSl (.Constant (.str ky) j p2) := by intros _ _; rfl) : DE X E (.Subscript (.Name x p1) (.Constant (.str ky) j p2) pos) (dDrTurn i ky) :=
  ⟨fun G bs => (pe_dget hr.one (pe_var hN hv hd hcd) pe_str hs).imp fun σ H Q ⟨e, w, pd, R, h⟩ => by
    unfold dDrTurn at h
    cases hq : (match (⟨w, e⟩ : S).e[i]? with
      | some .dr => if (keyOk (⟨w, e⟩ : S).w.key && decide ((⟨w, e⟩ : S).w.key = ky)) = true then some (RE.val (.sh (.int (⟨w, e⟩ : S).w.turn)) ⟨w, e⟩) else none
      | _ => none) with
    | none => rw [hq] at h; exact h.elim
    | some f =>
      rw [hq] at h
      obtain ⟨h1, h2⟩ := slot_dr hq
      by_cases hk : (keyOk w.key && decide (w.key = ky)) = true
      · rw [if_pos hk] at h2
        cases h2
        rw [Bool.and_eq_true, decide_eq_true_eq] at hk
        obtain ⟨r, hdr, e1⟩ := R.dr_at h1
        refine ⟨_, e1, r.d, .int w.turn, rfl, ?_, h _ none H R ⟨rfl, .int _⟩⟩
        rw [← val_turn (r := r) hk.1, ← hk.2]
        exact DGet.k (k := .inr w.key) (R.dk hdr)
      · rw [if_neg hk] at h2; cases h2⟩
/-! ### writing -/
@[simp] def dDrSetRest (i : Nat) (t : TEf) : TSf := fun s => eS (t s) fun r s => match r, s.e[i]? with
  | .sh (.int z), some .dr => if keyOk s.w.key = true then some (.nx ⟨{ s.w with rest := z }, calmE s.e⟩) else none
  | _, _ => none
@[simp] def dDrSetTurn (i : Nat) (k : Str) (t : TEf) : TSf := fun s => eS (t s) fun r s => match r, s.e[i]? with
  | .sh (.int z), some .dr => if (keyOk s.w.key && decide (s.w.key = k)) = true then some (.nx ⟨{ s.w with turn := z }, calmE s.e⟩) else none
  | _, _ => none
theorem intDr {r : Sl} {o : Option Sl} {α : Type} {t : Int → Option α} {f : α} (h : (match r, o with
  | .sh (.int z), some .dr => t z
  | _, _ => none) = some f) : ∃ z, r = .sh (.int z) ∧ o = some .dr ∧ t z = some f := by
  split at h
  · exact ⟨_, rfl, rfl, h⟩
  · cases h
theorem ds_drSetRest {k i : Nat} {x : Str} {j : Nat} {e : Expr} {t : TEf} {p1 p2 p3 pos : Pos} (hr : Rm k X.A) (hN : X.N[i]? = some x) (hv : Vis X.env.scope x) (he : DE X E e t) (hs : swapsWith e (some (.Subscript (.Name x p1) (.Constant (.str "rest") j p2) p3)) pos.line X.env = pure false := by rfl)
    (hd : (x == ("__debug__" : Str)) = false := by decide) (hcd : (x == ("__classdict__" : Str)) = false := by decide) : DS X E (.Assign [.Subscript (.Name x p1) (.Constant (.str "rest") j p2) p3] e pos) (dDrSetRest i t) :=
  ⟨fun G bs => (ps_dput hr.one (pe_var hN hv hd hcd) pe_str (he.run G bs) hs).imp fun D σ H ⟨s, R, q⟩ => ⟨s.e, s.w, [], R.1, q.first fun r s q v x' H' R' r' => by
    cases hq : (match r, s.e[i]? with
      | .sh (.int z), some .dr => if keyOk s.w.key = true then some (Fl.nx ⟨{ s.w with rest := z }, calmE s.e⟩) else none
      | _, _ => none) with
    | none => rw [hq] at q; exact q.elim
    | some f =>
      rw [hq] at q
      obtain ⟨z, e1, e2, e3⟩ := intDr (t := fun z => if keyOk s.w.key = true then some (Fl.nx ⟨{ s.w with rest := z }, calmE s.e⟩) else none) hq
      subst e1
      by_cases hk : keyOk s.w.key = true
      · rw [if_pos hk] at e3
        cases e3
        have ev := r'.2.int_inv
        subst ev
        have ex : x' = none := r'.1
        subst ex
        obtain ⟨d, hdr, e1⟩ := R'.dr_at e2
        refine ⟨_, e1, d.d, _, rfl, DPut.k (k := .inr "rest") (R'.dk hdr) (by rw [sizeLine_eq]; exact (by decide : 4 < 16777216)), ?_⟩
        rw [put_rest hk]
        have C := (R'.setD (w' := { s.w with rest := z }) hdr rfl rfl rfl).calm
        exact q σ _ C
      · rw [if_neg hk] at e3; cases e3⟩⟩
theorem ds_drSetTurn {k i : Nat} {x ky : Str} {j : Nat} {e : Expr} {t : TEf} {p1 p2 p3 pos : Pos} (hr : Rm k X.A) (hN : X.N[i]? = some x) (hv : Vis X.env.scope x) (he : DE X E e t) (hs : swapsWith e (some (.Subscript (.Name x p1) (.Constant (.str ky) j p2) p3)) pos.line X.env = pure false := by rfl)
    (hd : (x == ("__debug__" : Str)) = false := by decide) (hcd : (x == ("__classdict__" : Str)) = false := by decide) : DS X E (.Assign [.Subscript (.Name x p1) (.Constant (.str ky) j p2) p3] e pos) (dDrSetTurn i ky t) :=
  ⟨fun G bs => (ps_dput hr.one (pe_var hN hv hd hcd) pe_str (he.run G bs) hs).imp fun D σ H ⟨s, R, q⟩ => ⟨s.e, s.w, [], R.1, q.first fun r s q v x' H' R' r' => by
    cases hq : (match r, s.e[i]? with
      | .sh (.int z), some .dr => if (keyOk s.w.key && decide (s.w.key = ky)) = true then some (Fl.nx ⟨{ s.w with turn := z }, calmE s.e⟩) else none
      | _, _ => none) with
    | none => rw [hq] at q; exact q.elim
    | some f =>
      rw [hq] at q
      obtain ⟨z, e1, e2, e3⟩ := intDr (t := fun z => if (keyOk s.w.key && decide (s.w.key = ky)) = true then some (Fl.nx ⟨{ s.w with turn := z }, calmE s.e⟩) else none) hq
      subst e1
      by_cases hk : (keyOk s.w.key && decide (s.w.key = ky)) = true
      · rw [if_pos hk] at e3
        cases e3
        rw [Bool.and_eq_true, decide_eq_true_eq] at hk
        have ev := r'.2.int_inv
        subst ev
        have ex : x' = none := r'.1
        subst ex
        obtain ⟨d, hdr, e1⟩ := R'.dr_at e2
        refine ⟨_, e1, d.d, _, rfl, DPut.k (k := .inr ky) (R'.dk hdr) (by rw [sizeLine_eq]; exact (by decide : 4 < 16777216)), ?_⟩
        rw [← hk.2, put_turn hk.1]
        have C := (R'.setD (w' := { s.w with turn := z }) hdr rfl rfl rfl).calm
        exact q σ _ C
      · rw [if_neg hk] at e3; cases e3⟩⟩
/-! ### draw["large"].pop(0), draw["large"] != [] -/
@[simp] def dDrPop (i : Nat) : TEf := fun s => match s.e[i]? with
  | some .dr => match s.w.large with
    | x :: r => some (.val (.sh (.int x)) ⟨{ s.w with large := r }, s.e⟩)
    | [] => none
  | _ => none
theorem de_drPop {k i : Nat} {x : Str} {j j2 : Nat} {p1 p2 p3 p4 apos cpos : Pos} (hr : Rm k X.A) (hN : X.N[i]? = some x) (hv : Vis X.env.scope x) (hd : (x == ("__debug__" : Str)) = false := by decide)
    (hcd : (x == ("__classdict__" : Str)) = false := by decide) (hs : NoSl (.Constant (.str "large") j p2) := by intros _ _; rfl)
    (hbase : attributeBase (.Subscript (.Name x p1) (.Constant (.str "large") j p2) p3) "pop" X.env (eval (.Subscript (.Name x p1) (.Constant (.str "large") j p2) p3) X.env) = eval (.Subscript (.Name x p1) (.Constant (.str "large") j p2) p3) X.env := by rfl)
    (hfew : ((backTo cpos (starEach [.Constant (.int 0) j2 p4] X.env)).all (fun x => !x.1) && (backToKw cpos (keywordEach [] X.env)).all (fun x => x.1.isSome)
      && decide (([.Constant (.int 0) j2 p4] : List Expr).length + ([] : List Keyword).length + (if ([] : List Keyword).isEmpty then 0 else 1) < 30)) = true := by rfl)
    (hline : (apos.endLine == cpos.line) = true := by rfl) (ha : starEach [.Constant (.int 0) j2 p4] X.env = (false, eval (.Constant (.int 0) j2 p4) X.env) :: starEach [] X.env := by rfl) :
    DE X E (.Call (.Attribute (.Subscript (.Name x p1) (.Constant (.str "large") j p2) p3) "pop" apos) [.Constant (.int 0) j2 p4] [] cpos) (dDrPop i) :=
  ⟨fun G bs => (pe_bm PySem.F.plainAttrs_list PySem.F.slot_list_pop PySem.F.type_list_pop mt_popAt (pe_dget hr.one (pe_var hN hv hd hcd) pe_str hs) (pa_cons pe_int pa_nil ha) hbase hfew hline ha).imp fun σ H Q ⟨e, w, pd, R, h⟩ => by
    unfold dDrPop at h
    cases hq : (match (⟨w, e⟩ : S).e[i]? with
      | some .dr => (match (⟨w, e⟩ : S).w.large with
        | x :: r => some (RE.val (.sh (.int x)) ⟨{ (⟨w, e⟩ : S).w with large := r }, e⟩)
        | [] => none)
      | _ => none) with
    | none => rw [hq] at h; exact h.elim
    | some f =>
      rw [hq] at h
      obtain ⟨h1, h2⟩ := slot_dr hq
      obtain ⟨r, hdr, e1⟩ := R.dr_at h1
      obtain ⟨w1, w2, w3, w4, w5⟩ := R.wr.2 r hdr
      cases hl : w.large with
      | nil => simp only [hl] at h2; cases h2
      | cons z zs =>
        simp only [hl] at h2
        cases h2
        rw [hl] at w2
        refine ⟨_, e1, r.d, .ref r.l, rfl, ?_, .inl ⟨rfl, _, .inl (.inl w2)⟩, r.l, _, 0, 0, .int z, rfl, rfl, w2, by decide, by decide, ?_, rfl, ?_⟩
        · rw [← val_large (r := r) (w := w)]
          exact DGet.k (k := .inr "large") w1
        · simp [seqIndex?]
        · have R2 := R.setL (ls := zs) hdr
          exact h _ none _ R2 ⟨rfl, .int z⟩⟩
theorem dp_ints (K : PySem.W.Frag) (H : Hp) : ∀ l : List Int, DpAll K H (l.map V.int) (l.map PyData.int)
  | [] => .nil
  | z :: l => .cons (.int z) (dp_ints K H l)
theorem shaped_ints (l : List Int) : SeqAt.shaped (.list (l.map PyData.int)) = true := by
  have h1 : ∀ l : List Int, PyData.canLayAll0 (l.map PyData.int) = true := fun l => by
    induction l with
    | nil => simp [PyData.canLayAll0]
    | cons z l ih => simp [PyData.canLayAll0, PyData.canLay0, ih]
  have h2 : ∀ l : List Int, PyData.depthAll (l.map PyData.int) ≤ 1 := fun l => by
    induction l with
    | nil => simp [PyData.depthAll]
    | cons z l ih => simp [PyData.depthAll, PyData.depth]; exact ih
  unfold SeqAt.shaped
  rw [Bool.and_eq_true, PyData.canLay0]
  refine ⟨h1 l, decide_eq_true ?_⟩
  have := h2 l
  simp only [PyData.depth]
  omega
@[simp] def tDrNe (i : Nat) : TTf := fun s => match s.e[i]? with
  | some .dr => some (.tv (!s.w.large.isEmpty) s)
  | _ => none
theorem dt_drNe {k i : Nat} {x : Str} {j : Nat} {p1 p2 p3 p4 pos : Pos} (hr : Rm k X.A) (hN : X.N[i]? = some x) (hv : Vis X.env.scope x) (hd : (x == ("__debug__" : Str)) = false := by decide)
    (hcd : (x == ("__classdict__" : Str)) = false := by decide) (hs : NoSl (.Constant (.str "large") j p2) := by intros _ _; rfl) (hm : behindInMarks .NotEq (.List [] p4) = false := by rfl) :
    DT X E (.Compare (.Subscript (.Name x p1) (.Constant (.str "large") j p2) p3) [.NotEq] [.List [] p4] pos) (tDrNe i) :=
  ⟨fun G bs => (pt_cmpR (op_neD (by have := hr.eq64; omega)) (pe_dget hr.one (pe_var hN hv hd hcd) pe_str hs) (pe_lst pa_nil) hm).imp fun σ H Q ⟨e, w, pd, R, h⟩ => by
    unfold tDrNe at h
    cases hq : (match (⟨w, e⟩ : S).e[i]? with
      | some .dr => some (RT.tv (!(⟨w, e⟩ : S).w.large.isEmpty) ⟨w, e⟩)
      | _ => none) with
    | none => rw [hq] at h; exact h.elim
    | some f =>
      rw [hq] at h
      obtain ⟨h1, h2⟩ := slot_dr hq
      cases h2
      obtain ⟨r, hdr, e1⟩ := R.dr_at h1
      obtain ⟨w1, w2, w3, w4, w5⟩ := R.wr.2 r hdr
      refine ⟨_, e1, r.d, .ref r.l, rfl, ?_, by decide, fun p hp => ?_⟩
      · rw [← val_large (r := r) (w := w)]
        exact DGet.k (k := .inr "large") w1
      · refine ⟨.list (w.large.map PyData.int), .list [], .lst (.inl (.inl ?_)) (dp_ints _ _ _), .lst (xs := []) (.inl (.inl upd_same)) .nil, shaped_ints _, shaped_ints [], _, rfl, ?_⟩
        · rw [upd_ne (ne_of_none w2 hp)]; exact w2
        · have e2 : (!PyData.eqv (.list (w.large.map PyData.int)) (.list [])) = !w.large.isEmpty := by
            cases w.large with
            | nil => simp [PyData.eqv, PyData.eqvAll]
            | cons _ _ => simp [PyData.eqv, PyData.eqvAll]
          rw [e2]
          exact h _ (R.alloc hp)⟩
end
end DL

end

section -- DL13
set_option Elab.async false
set_option linter.all false
set_option maxRecDepth 100000
set_option maxHeartbeats 2000000
/-! DL13: the record's numbers walked; the record made. -/
namespace DL
open PySem PySem.Spec L2

def forCS (asg : TGf) (body : TSf) (all : List Int) : List Int → S → Option Fl
  | [], s => if s.w.cells = all then some (.nx s) else none
  | z :: zs, s => if s.w.cells = all then (match asg (.int z) s with
    | none => none
    | some s1 => match body s1 with
      | some (.nx s2) => forCS asg body all zs s2
      | some (.ct s2) => forCS asg body all zs s2
      | some (.bk s2) => some (.nx s2)
      | r => r) else none
/-- for x in draw["cells"] -/
def dForC (i : Nat) (asg : TGf) (body : TSf) : TSf := fun s => match s.e[i]? with
  | some .dr => forCS asg body s.w.cells s.w.cells s
  | _ => none
section
variable {X : Cx} {E : XK}
theorem ds_forC {k i : Nat} {x : Str} {j : Nat} {p1 p2 p3 pos : Pos} {tg : Expr} {body : List Stmt} {asg : TGf} {tb : TSf} {vs : List Nat} {g : TG} (hr : Rm k X.A) (hp : PassesOwn (model X.prog X.w) X.A X.env X.xe) (hc : X.calm = true) (hN : X.N[i]? = some x) (hv : Vis X.env.scope x)
    (hg : DG X tg asg vs g) (hb : DSs X E body tb) (hd : (x == ("__debug__" : Str)) = false := by decide) (hcd : (x == ("__classdict__" : Str)) = false := by decide) (hsl : NoSl (.Constant (.str "cells") j p2) := by intros _ _; rfl)
    (hs : ∀ y, foldedSetIterable (.Subscript (.Name x p1) (.Constant (.str "cells") j p2) p3) X.env y = pure y := by intro _; rfl) :
    DS X E (.For tg (.Subscript (.Name x p1) (.Constant (.str "cells") j p2) p3) body [] pos) (dForC i asg tb) := ⟨fun G bs => by
  refine (ps_for hp hc (pi_seq (pe_dget hr.one (pe_var hN hv hd hcd) pe_str hsl)) hg.pg (hb.run G bs) hs).imp fun D σ H ⟨s, R, q⟩ => ?_
  unfold dForC at q
  cases hq : (match s.e[i]? with
    | some .dr => forCS asg tb s.w.cells s.w.cells s
    | _ => none) with
  | none => rw [hq] at q; exact q.elim
  | some f =>
    rw [hq] at q
    obtain ⟨h1, h2⟩ := slot_dr hq
    obtain ⟨r, hdr, e1⟩ := R.1.dr_at h1
    obtain ⟨w1, w2, w3, w4, w5⟩ := R.1.wr.2 r hdr
    refine ⟨_, e1, r.d, .ref r.c, rfl, ?_, .inl ⟨r.c, rfl, ⟨_, .inl (.inl w3)⟩, ?_⟩⟩
    · rw [← val_cells (r := r) (w := s.w)]
      exact DGet.k (k := .inr "cells") w1
    generalize hall : s.w.cells = all at h2
    refine ⟨fun n m σ H => n + m = all.length ∧ ∃ s, SR0 X.K G bs σ s H ∧ forCS asg tb all (all.drop n) s = some f, ⟨all.length, by omega, s, R, h2⟩, fun n m σ H ⟨hnm, s, R4, q4⟩ => ?_⟩
    by_cases hi : n < all.length
    · rw [List.drop_eq_getElem_cons hi] at q4
      unfold forCS at q4
      by_cases hcl : s.w.cells = all
      · rw [if_pos hcl] at q4
        obtain ⟨u1, u2, u3, u4, u5⟩ := R4.1.wr.2 r hdr
        rw [hcl] at u3
        have sq : SqL X.K H r.c (all.map V.int) := .inl (.inl u3)
        have at_ : (all.map V.int)[n]? = some (.int all[n]) := by rw [List.getElem?_map, List.getElem?_eq_getElem hi]; rfl
        refine .inr ⟨⟨_, _, sq, at_⟩, fun σ' H' => ∃ s', SR0 X.K G bs σ' s' H' ∧ forCS asg tb all (all.drop (n + 1)) s' = some f, fun σ' H' ⟨s', R', q'⟩ => ⟨m - 1, by omega, by omega, s', R', q'⟩, fun v H' y => ?_⟩
        obtain ⟨eH, y⟩ := y
        subst eH
        have ev : V.int all[n] = v := Option.some.inj (at_.symm.trans (y _ sq))
        subst ev
        cases ha : asg (.int all[n]) s with
        | none => rw [ha] at q4; cases q4
        | some s2 =>
          simp only [ha] at q4
          refine hg.run G bs σ s.e s.w [] _ _ (.int all[n]) s2 _ R4.1 (.int _) ha fun σ2 R5 n5 _ => ⟨s2, ⟨R5, n5 R4.2⟩, ?_⟩
          match hb2 : tb s2 with
          | some (.nx s3) => simp only [hb2] at q4; exact fun σ' H2 R' => ⟨s3, R', q4⟩
          | some (.ct s3) => simp only [hb2] at q4; exact fun σ' H2 R' => ⟨s3, R', q4⟩
          | some (.bk s3) => simp only [hb2] at q4; cases q4; exact fun σ' H2 R' => q σ' H2 R'
          | some (.rt r s3) => simp only [hb2] at q4; cases q4; exact fun σ' v x H2 R' r' => q σ' v x H2 R' r'
          | some (.exc ex w) => simp only [hb2] at q4; cases q4; exact q
          | none => simp only [hb2] at q4; cases q4
      · rw [if_neg hcl] at q4; cases q4
    · have hz : all.drop n = [] := List.drop_eq_nil_of_le (by omega)
      rw [hz] at q4
      unfold forCS at q4
      by_cases hcl : s.w.cells = all
      · rw [if_pos hcl] at q4
        cases q4
        obtain ⟨u1, u2, u3, u4, u5⟩ := R4.1.wr.2 r hdr
        rw [hcl] at u3
        exact .inl ⟨⟨_, .inl (.inl u3), by rw [List.length_map]; omega⟩, q σ H R4⟩
      · rw [if_neg hcl] at q4; cases q4⟩
end

/-! ### the record is made -/
/-- ints alone -/
def intsOf : List D → Option (List Int)
  | [] => some []
  | .int z :: r => (intsOf r).map (z :: ·)
  | _ => none
@[simp] theorem intsOf_nil : intsOf [] = some [] := rfl
@[simp] theorem intsOf_cons (z : Int) (r : List D) : intsOf (.int z :: r) = (intsOf r).map (z :: ·) := rfl
@[simp] theorem intsOf_map : ∀ l : List Int, intsOf (l.map D.int) = some l
  | [] => rfl
  | x :: l => by rw [List.map_cons, intsOf_cons, intsOf_map l]; rfl
theorem RepAll.ints {K : PySem.W.Frag} {Av : AS} {H : Hp} : ∀ {vs : List V} {ds : List D} {ys : List Int}, RepAll K Av H vs ds → intsOf ds = some ys → vs = ys.map V.int
  | _, _, _, .nil, h => by cases h; rfl
  | _, _, _, .cons (d := d) (ds := ds) r t, h => by
    cases d with
    | int x =>
      rw [intsOf_cons] at h
      cases q : intsOf ds with
      | none => rw [q] at h; cases h
      | some zs => rw [q] at h; cases h; rw [r.int_inv, t.ints q]; rfl
    | _ => simp [intsOf] at h
/-- the promise of the maker: what the record holds, by f of the numbers handed in -/
def spBegun (K : PySem.W.Frag) (f : List Int → List Int × List Int) (key : Str) : Sp := fun vs H Q _ => ∃ (a : Addr) (ns : List Int), vs = [.ref a] ∧ SqL K H a (ns.map V.int) ∧ ns.length ≤ 16777216 ∧ ∀ (d l c : Addr) (H' : Hp), Ch (fun _ => False) H H' → H d = none → H l = none → H c = none → l ≠ c →
  H' d = some (.dK (drKvs ⟨d, l, c, []⟩ ⟨(f ns).1, (f ns).2, 0, 0, key, []⟩)) → H' l = some (.lst ((f ns).1.map V.int)) → H' c = some (.lst ((f ns).2.map V.int)) → Q (.ref d) H'
theorem merge_new {l c : Addr} {key : Str} (hk : keyOk key = true) : mergeK [] [(.inr "large", V.ref l), (.inr "cells", V.ref c), (.inr "rest", V.int 0), (.inr key, V.int 0)] = [(.inr "large", .ref l), (.inr "cells", .ref c), (.inr "rest", .int 0), (.inr key, .int 0)] := by
  obtain ⟨h1, h2, h3⟩ := keyOk_ne hk
  unfold mergeK
  simp [putK, s_lc, s_lr, s_cr, h1.symm, h2.symm, h3.symm]
section
variable {X : Cx} {E : XK}
/-- return {"large": x, "cells": e, "rest": 0, key: 0}: here the dict stands empty while e is worked out -/
theorem ps_begun {G : GC} {i : Nat} {x key : Str} {e2 : Expr} {t2 : TEf} {j1 j2 j3 j4 j5 j6 : Nat} {p0 p1 p2 p3 p4 p5 p6 p7 pd ps : Pos} (hk : keyOk key = true) (hN : X.N[i]? = some x) (hv : Vis X.env.scope x) (he : DE X E e2 t2)
    (hd : (x == ("__debug__" : Str)) = false := by decide) (hcd : (x == ("__classdict__" : Str)) = false := by decide) :
    PS X (.Return (some (.Dict [some (.Constant (.str "large") j1 p1), some (.Constant (.str "cells") j2 p2), some (.Constant (.str "rest") j3 p3), some (.Constant (.str key) j4 p4)] [.Name x p0, e2, .Constant (.int 0) j5 p5, .Constant (.int 0) j6 p6] pd)) ps)
      fun Z σ H => ∃ (s : S) (ls cs : List Int) (s2 : S) (l1 : List DL.D) (l2 : List DL.D), SR0 X.K G [] σ s H ∧ s.e[i]? = some (.own (.lst l1)) ∧ t2 s = some (.val (.own (.lst l2)) s2) ∧ s2.e[i]? = some (.own (.lst l1)) ∧ intsOf l1 = some ls ∧ intsOf l2 = some cs ∧
        ∀ (d l c : Addr) (H' : Hp), Ch (DrS G.dr) G.H0 H' → G.H0 d = none → G.H0 l = none → G.H0 c = none → l ≠ c → H' d = some (.dK [(.inr "large", .ref l), (.inr "cells", .ref c), (.inr "rest", .int 0), (.inr key, .int 0)]) → H' l = some (.lst (ls.map V.int)) → H' c = some (.lst (cs.map V.int)) → Z.rt (.ref d) H' := by
  have he' : PE X e2 fun σ H Q => ∃ G', lift X.K G' [] E t2 σ H Q := ⟨fun p s σ H Q I ⟨G', h⟩ => (he.run G' []).run p s σ H Q I h⟩
  have len : ([some (.Constant (.str "large") j1 p1), some (.Constant (.str "cells") j2 p2), some (.Constant (.str "rest") j3 p3), some (.Constant (.str key) j4 p4)] : List (Option Expr)).length ≤ 15 := by
    show 4 ≤ 15
    omega
  refine (ps_ret (pe_disp (pps_cons pe_str (pe_var hN hv hd hcd) (pps_cons pe_str he' (pps_cons pe_str pe_int (pps_cons pe_str pe_int pps_nil)))) (by rfl) (by rfl) (by simp) len)).imp ?_
  intro Z σ H ⟨s, ls, cs, s2, l1, l2, R, h1, h2, h3, h4, h5, q⟩ p hp
  obtain ⟨la, ea, oa, na⟩ := R.1.ownV (.inl h1)
  have R1 := R.1.allocX (o := .dK []) hp
  obtain ⟨fp, _, _⟩ := R1.fr p rfl
  refine ⟨.ref la, ea, G.hide (upd H p (.dK [])) p, s.e, s.w, [], R1.hide (.inr (.inl ⟨_, upd_same⟩)), ?_⟩
  rw [show (⟨s.w, s.e⟩ : S) = s from rfl, h2]
  intro v x2 H2 R2 ⟨ca, e1, e2, oc⟩
  subst e1
  subst e2
  obtain ⟨fc, nc, tc⟩ := R2.fr ca rfl
  have fc : (if ca = p then (upd H p (.dK [])) p else G.H0 ca) = none := fc
  have cp : ca ≠ p := fun z => by
    rw [if_pos z, upd_same] at fc
    cases fc
  rw [if_neg cp] at fc
  obtain ⟨la', ea', oa', na'⟩ := R2.ownV (.inl h3)
  rw [ea] at ea'
  cases ea'
  have lc : la ≠ ca := fun z => nc ⟨i, _, .inl h3, by rw [ea, z]⟩
  have na'' : (if la = p then (upd H p (.dK [])) p else G.H0 la) = none := na'
  have lp : la ≠ p := fun z => by
    rw [if_pos z, upd_same] at na''
    cases na''
  have ndp : ¬ DrS G.dr p := R1.own_nodr fp
  have hp2 : H2 p = some (.dK []) := R2.ext p _ ndp (by show (if p = p then (upd H p (.dK [])) p else G.H0 p) = _; rw [if_pos rfl, upd_same])
  obtain ⟨xs1, hx1, r1⟩ := oa'
  obtain ⟨xs2, hx2, r2⟩ := oc
  refine ⟨hp2, [(.inr "large", .ref la), (.inr "cells", .ref ca), (.inr "rest", .int 0), (.inr key, .int 0)], rfl, by show 4 ≤ 15; omega, ?_⟩
  rw [merge_new hk]
  refine q p la ca _ (fun b o n e => ?_) fp na fc lc upd_same (by rw [upd_ne lp, hx1, r1.ints h4]) (by rw [upd_ne cp, hx2, r2.ints h5])
  have bp : b ≠ p := fun z => by rw [z, fp] at e; cases e
  rw [upd_ne bp]
  exact R2.ext b o n (by show (if b = p then (upd H p (.dK [])) p else G.H0 b) = some o; rw [if_neg bp]; exact e)
end
end DL

end

section -- DL14
set_option Elab.async false
set_option linter.all false
set_option maxRecDepth 100000
set_option maxHeartbeats 2000000
/-! DL14: an own error class over another own one, its __init__ by super: made. -/
namespace DL
open PySem PySem.Spec L2 PySem.W PySem.HandSPX

def supA (f : Str) (p1 p2 : Pos) : Arguments := { posonlyargs := [], args := [{ arg := "self", annotation := none, pos := p1 }, { arg := f, annotation := none, pos := p2 }], vararg := none, kwonlyargs := [], kw_defaults := [], kwarg := none, defaults := [] }
def supB (f msg : Str) (j : Nat) (q1 q2 q3 q4 q5 q6 q7 q8 q9 q10 : Pos) : List Stmt :=
  [.Expr (.Call (.Attribute (.Call (.Name "super" q1) [] [] q2) "__init__" q3) [.Constant (.str msg) j q4] [] q5) q6,
   .Assign [.Attribute (.Name "self" q7) f q8] (.Name f q9) q10]
def supS (f : Str) : Scope := { kind := .function, names := [(PySem.Str.ofString "self", .local), (f, .local), (PySem.Str.ofString "__class__", .free), (PySem.Str.ofString "super", .globalImplicit)], isGenerator := false, isCoroutine := false, more := [] }
/-- what the written part says of such a class at C, of its __init__ at fI, of the cell at cc, the code at cda -/
structure SupT (K : Frag) (prog : Program) (C fI cc cda : Addr) (qual f msg : Str) : Prop where
  q : excInitIn K C He.veBase "ValueError.__new__" = true
  cd : ∃ cd, clsIn K C = some cd ∧ refsVE cd.mro = true ∧ cd.hasDict = true
  sa : findIn K (.ref C) "__setattr__" = some (some (.builtin "object.__setattr__"))
  ga : findIn K (.ref C) "__getattribute__" = some (some (.builtin "BaseException.__getattribute__"))
  gg : findIn K (.ref C) "__getattr__" = some none
  noF : findIn K (.ref C) f = some none
  iC : findIn K (.ref C) "__init__" = some (some (.ref fI))
  tC : typeIn K (.ref fI) = some (.type "function")
  kC : keepIn K (.ref C) = true
  exC : subIn K (.ref C) (.type "BaseException") = some true
  tyC : typeIn K (.ref C) = some (.type "type")
  hdC : hasDictIn K C = true
  veC : subIn K (.ref C) (.type "ValueError") = some true
  up : ks_superIn K C C "__init__" = some (some (.builtin "ValueError.__init__"))
  mC : mroIn K C (.ref C) = some true
  op : nsIn K cStatics "thirdparty.any" = some none
  su : nsIn K mainGlobals "super" = some none
  ne1 : (f == ("__debug__" : Str)) = false
  ne2 : f ≠ "self"
  ne3 : f ≠ "super"
  ne4 : f ≠ "__class__"
  top : (prog.main.scope.names.lookup ("super" : Str)).isSome = false
  bnd : ∀ (qual : Str) (body : List Stmt) (scope : Scope) (doc pm : Value) (an : Option Addr) (cd ct : Value) (cc : Addr) (p1 p2 : Pos) (x v : Value), bindArgs (ksFn "__init__" qual (supA f p1 p2) body scope .none .none doc pm an cd ct cc) ⟨[x, v], []⟩ = pure [((PySem.Str.ofString "self", x) : Str × Value), (f, v)]
  cell : ∃ a b c, K.lookup cc = some ⟨a, b, .cell (some (.ref C)), c⟩
  code : ∃ a b vs c file t, K.lookup cda = some ⟨a, b, .fields vs, c⟩ ∧ vs[2]? = some (.str file t) ∧ ((prog.main.file : Str) == file) = true
  fn : ∃ (oc : Value) (od : Option Addr) (doc pm : Value) (an : Option Addr) (ct : Value) (osl : Array (Option Value)) (p1 p2 : Pos) (j : Nat) (q1 q2 q3 q4 q5 q6 q7 q8 q9 q10 : Pos),
    K.lookup fI = some ⟨oc, od, .func (ksFn "__init__" qual (supA f p1 p2) (supB f msg j q1 q2 q3 q4 q5 q6 q7 q8 q9 q10) (supS f) .none .none doc pm an (.ref cda) ct cc), osl⟩ ∧ codeIn K (.ref cda) qual = true ∧
    ∃ pl : Env → Sem Bool, ∀ env : Env, eval (.Call (.Attribute (.Call (.Name "super" q1) [] [] q2) "__init__" q3) [.Constant (.str msg) j q4] [] q5) env = (do
      let ov ← attributeBase (.Call (.Name "super" q1) [] [] q2) "__init__" env (eval (.Call (.Name "super" q1) [] [] q2) env)
      standAt q3.atName
      let (f, first) ← holding [ov] (getMethod ov "__init__" (pl env))
      callWith q5 f first (backTo q5 (starEach [.Constant (.str msg) j q4] env)) [])
/-- what __init__ leaves of a fresh exception at x -/
structure SupEnd (h h' : Heap) (x C dx : Addr) (f : Str) (v : Value) : Prop where
  keep : ∀ b o, b ≠ x → h.get? b = some o → h'.get? b = some o
  obj : ∃ t1, h'.get? x = some { cls := .ref C, dict := some dx, data := .fields #[.ref t1, .none, .none, .none, .bool false, .none] }
  dbig : h.objs.size ≤ dx
  dne : dx ≠ x
  ns : h'.Ns1 dx (fun y => if y = f then some v else none)
section
variable {prog : Program} {w : World} {A : Around} {E : Value → Shared → Prop} {R : Result → Shared → Prop} {s : Shared} {K : Frag} {mg : Str → Option Value} {C fI cc cda : Addr} {qual f msg : Str}
theorem sup_names (f : Str) (h2 : f ≠ "self") (h3 : f ≠ "super") : ∀ x ∈ (supS f).names, x.2 ≠ .cell := fun x hx => by
  simp only [supS, List.mem_cons, List.not_mem_nil, or_false] at hx
  rcases hx with e | e | e | e <;> subst e <;> exact fun z => by cases z
theorem look_self (f : Str) : (supS f).names.lookup ("self" : Str) = some .local := by
  have e : ((PySem.Str.ofString "self") == PySem.Str.ofString "self") = true := by simp
  simp [supS, List.lookup, e]
theorem look_f {f : Str} (h2 : f ≠ "self") : (supS f).names.lookup f = some .local := by
  have e : (f == PySem.Str.ofString "self") = false := by simpa using h2
  simp [supS, List.lookup, e]
theorem look_cls {f : Str} (h4 : f ≠ "__class__") : (supS f).names.lookup ("__class__" : Str) = some .free := by
  have e : ((PySem.Str.ofString "__class__") == PySem.Str.ofString "self") = false := by decide
  have e2 : ((PySem.Str.ofString "__class__") == f) = false := by simpa using h4.symm
  simp [supS, List.lookup, e, e2]
theorem look_sup {f : Str} (h3 : f ≠ "super") : (supS f).names.lookup ("super" : Str) = some .globalImplicit := by
  have e : ((PySem.Str.ofString "super") == PySem.Str.ofString "self") = false := by decide
  have e2 : ((PySem.Str.ofString "super") == f) = false := by simpa using h3.symm
  have e3 : ((PySem.Str.ofString "super") == PySem.Str.ofString "__class__") = false := by decide
  simp [supS, List.lookup, e, e2, e3]
theorem mod_keeps {base h : Heap} (M : Mod K mg base) (k : ∀ b o, base.get? b = some o → h.get? b = some o) : Mod K mg h :=
  ⟨M.kin.keeps k, M.glob.keeps k, let ⟨mb, a, b⟩ := M.blt; ⟨mb, a.keeps k, b⟩, M.nolimit.keeps k⟩
/-- the built-in __init__ called through super -/
theorem sup_call (T : SupT K prog C fI cc cda qual f msg) (X : K.In s.heap) {u x t0 : Addr} {rest : List Value} {Q : Value → Shared → Prop} (hu : s.heap.get? u = some (kxs_mw "ValueError.__init__" x)) (hx : s.heap.get? x = some (excO C t0)) (hz : rest.length ≤ sizeLine)
    (hq : ∀ h' t1, (∀ b o, b ≠ x → s.heap.get? b = some o → h'.get? b = some o) → h'.get? x = some (excO C t1) → Q .none { s with heap := h' }) : wpAny (model prog w) A (call (.ref u) rest) Q E s := by
  obtain ⟨nm, N', qn, bs, bm, hdct, sn, sub, ab, col, dd, k0, k1, k2, k3, k5, hC, hT⟩ := excInit_of X T.q
  obtain ⟨hh, g, d, tk, os⟩ := s
  refine wpAny_call (codeAny_of_tree ?_)
  show wpAny _ A.in1 (callAny (.ref u) ⟨rest, []⟩) _ _ _
  simp only [callAny]
  refine wpAny_bind (wpAny_load hu ?_)
  simp only [kxs_mw, show (Value.type "method-wrapper" == Value.type "method" || Value.type "method-wrapper" == Value.type "builtin_function_or_method" || Value.type "method-wrapper" == Value.type "method-wrapper") = true by decide, if_true]
  refine KFB.if_so (by decide) (wpAny_bind (check_bound_init PySem.F.excBase_ValueError.toExcCallFacts hC hx rfl (wpAny_bind (wpAny_pure (wpAny_pure ?_)))))
  refine ⟨plainId_quiet PySem.F.excBase_ValueError.init.plain _, codeAny_builtin PySem.F.excBase_ValueError.initEntry ?_⟩
  exact exc_init_tree (cls := .ref C) (t0 := t0) (dv := none) (c2 := .none) (c3 := .none) (b4 := .bool false) hx hz fun h' k e _ => hq h' _ k e
theorem sup_init (T : SupT K prog C fI cc cda qual f msg) {x t0 : Addr} {v : Value} (M : Mod K mg s.heap) (hx : s.heap.get? x = some (excO C t0)) (hnx : K.lookup x = none) (hroom : A.depth < recursionLimit)
    (hq : ∀ h' tk dx, SupEnd s.heap h' x C dx f v → R (.ok (.ret .none)) { s with heap := h', toks := tk }) :
    codeAny (model prog w) A (.call (.ref fI) ⟨[.ref x, v], []⟩) R s := by
  obtain ⟨oc, od, doc, pm, an, ct, osl, p1, p2, j, q1, q2, q3, q4, q5, q6, q7, q8, q9, q10, ho, hcd, pl, hev⟩ := T.fn
  have X := M.kin
  refine ks_codeAny_call_defAt (binds := [("self", .ref x), (f, v)]) hroom (X _ _ ho) rfl M.nolimit (codeRec_of X hcd) rfl (BindsTo.of_eq ?_) (sup_names f T.ne2 T.ne3) (fun y hy => ?_) (fun h₁ hns hk₁ => ?_)
  · exact T.bnd _ _ _ _ _ _ _ _ _ _ _ _ _
  · rcases List.mem_cons.mp hy with e | hy
    · subst e; exact look_self f
    · rw [List.mem_singleton.mp hy]; exact look_f T.ne2
  · have M₁ : Mod K mg h₁ := mod_keeps M hk₁
    have hx₁ := hk₁ _ _ hx
    obtain ⟨cdC, hcC, hmro, hdict⟩ := T.cd
    obtain ⟨oD, hD1, hD2⟩ : ∃ oD, h₁.get? C = some oD ∧ oD.data = .cls cdC := by
      unfold clsIn at hcC
      split at hcC
      · rename_i ho2
        cases hcC
        exact ⟨_, M₁.kin _ _ ho2, rfl⟩
      · cases hcC
    obtain ⟨ca, cb, cvs, csl, file, tf, hcode, hvs, hfile⟩ := T.code
    obtain ⟨e1, e2, e3, hcell⟩ := T.cell
    obtain ⟨mb, hmb, hblt⟩ := M₁.blt
    refine ks_wpAt_execs_cons (ks_wpAt_Expr_any (ks_wpAt_MethodCall (pl := pl _) ?_ (hev _)) rfl ?_)
    · refine ks_wpAt_super_base (env := ksEnv qual (supS f) s.heap.objs.size fI (.ref cda) cc) (look_sup T.ne3) (look_cls T.ne4) (by decide) rfl (M₁.kin _ _ ho) rfl rfl rfl (M₁.kin _ _ hcode) rfl hvs hfile T.top ?_
      refine ks_loadName_global rfl (look_sup T.ne3) (Calls.loadGlobal_builtin (env := ksEnv qual (supS f) s.heap.objs.size fI (.ref cda) cc) M₁.glob (mg_none_of M₁.kin M₁.glob T.su) hmb ((hblt _ (by decide)).trans (by decide +kernel)) ⟨rfl, ?_⟩)
      refine wpAny_loadName_free rfl (look_cls T.ne4) rfl ⟨_, M₁.kin _ _ hcell, rfl⟩ ?_
      refine wpAny_loadName_local rfl (look_self f) hns (v := .ref x) ?_ ?_
      · have n1 : ((PySem.Str.ofString "self") == f) = false := by simpa using T.ne2.symm
        have n2 : ((PySem.Str.ofString "self") == PySem.Str.ofString "self") = true := by simp
        simp [supA, List.lookup, n1, n2]
      refine ks_wpAny_isType_cls hD1 hD2 ⟨rfl, ?_⟩
      refine ks_wpAny_call_super hD1 hD2 hx₁ rfl (fun c e => by cases e) (looks_mroIn M₁.kin T.mC) (fun h₂ hso k₂ => ?_)
      have M₂ : Mod K mg h₂ := mod_keeps M₁ k₂
      have hup := T.up
      unfold ks_superIn at hup
      rw [hcC] at hup
      have xC : x ≠ C := fun z => by rw [z, hD1] at hx₁; cases hx₁; cases hD2
      refine kxs_getMethod kxs_ValueError hso (looks_opaque M₂.kin T.op) (l₀ := cdC.mro) (fun A Q E s k q => wpAny_bind ((looks_clsIn M₂.kin hcC) A _ E s k (wpAny_pure q))) rfl M₂.kin hup ?_ xC (by decide) ?_
      · have I : InstAt h₂ x (excO C t0) C none := ⟨k₂ _ _ hx₁, rfl, rfl, trivial⟩
        exact I.type.andThen (looks_subIn M₂.kin T.veC)
      refine kxs_callWith (i := "ValueError.__init__") (x := x) rfl ?_
      refine Calls.evalArgs_plain (Calls.spliced_cons (wpAny_Constant_str (k := j) (pos := q4) (Calls.spliced_nil ⟨Heap.get?_push_size _ rfl, ?_⟩)))
      have k₃ : ∀ b o, h₂.get? b = some o → (h₂.push (kxs_mw "ValueError.__init__" x)).get? b = some o := fun b o e => Heap.get?_push_of_some _ e
      have M₃ := mod_keeps M₂ k₃
      refine sup_call T M₃.kin (t0 := t0) (Heap.get?_push_size _ rfl) (k₃ _ _ (k₂ _ _ hx₁)) (by rw [sizeLine_eq]; show 1 ≤ 16777216; omega) fun h₄ t1 k₄ hx₄ => ?_
      have X₄ : K.In h₄ := fun a o e => k₄ a o (fun z => by rw [z, hnx] at e; cases e) (M₃.kin a o e)
      have xL : s.heap.objs.size ≠ x := Nat.ne_of_gt (Heap.lt_size hx)
      have hns₄ : h₄.Ns s.heap.objs.size fun y => List.lookup y [((PySem.Str.ofString "self", Value.ref x) : Str × Value), (f, v)].reverse := by
        obtain ⟨oL, es, ep, hL, r⟩ := hns
        exact ⟨oL, es, ep, k₄ _ _ xL (k₃ _ _ (k₂ _ _ hL)), r⟩
      refine wpAt_of_wpAny (wpAny_execs_cons (plainObj_wpAny_Assign_Attribute ?_ ?_))
      · refine wpAny_Name (wpAny_loadName_local rfl (look_f T.ne2) hns₄ (v := v) (by simp [List.lookup]) ?_) T.ne1
        refine wpAny_Name (wpAny_loadName_local rfl (look_self f) hns₄ (v := .ref x) ?_ ?_) (by decide)
        · have n1 : ((PySem.Str.ofString "self") == f) = false := by simpa using T.ne2.symm
          have n2 : ((PySem.Str.ofString "self") == PySem.Str.ofString "self") = true := by simp
          simp [List.lookup, n1, n2]
        refine set_plain X₄ (ox := excO C t1) (od := none) ⟨hx₄, rfl, rfl, trivial⟩ T.sa ?_
        refine exc_osa X₄ hx₄ hcC hmro hdict T.noF fun h₅ tk₅ dx k₅ dn dne hx₅ hn₅ => ?_
        refine wpAny_execs_nil (hq h₅ tk₅ dx ⟨fun b o hb e => k₅ b o hb (k₄ b o hb (k₃ _ _ (k₂ _ _ (hk₁ _ _ e)))), ⟨_, hx₅⟩, ?_, dne, hn₅⟩)
        have l1 : s.heap.objs.size < h₄.objs.size := by
          obtain ⟨oL, es, ep, hL, r⟩ := hns₄
          exact Heap.lt_size hL
        have l2 : h₄.objs.size ≤ dx := dn
        exact Nat.le_of_lt (Nat.lt_of_lt_of_le l1 l2)
      · rfl
    · rfl
/-- a made one -/
structure SupMade (h h' : Heap) (e C d : Addr) (f : Str) (v : Value) : Prop where
  keep : ∀ b o, h.get? b = some o → h'.get? b = some o
  new : h.objs.size ≤ e
  obj : ∃ oe vs, h'.get? e = some oe ∧ oe.cls = .ref C ∧ oe.dict = some d ∧ oe.data = .fields vs ∧ vs[1]? = some .none
  dbig : h.objs.size ≤ d
  dne : d ≠ e
  ns : h'.Ns1 d (fun y => if y = f then some v else none)
theorem sup_made (T : SupT K prog C fI cc cda qual f msg) {v : Value} (M : Mod K mg s.heap) (hroom : A.depth + 1 < recursionLimit)
    (hq : ∀ h' tk e d, SupMade s.heap h' e C d f v → R (.ok (.ret (.ref e))) { s with heap := h', toks := tk }) : codeAny (model prog w) A (.call (.ref C) ⟨[v], []⟩) R s := by
  have X := M.kin
  obtain ⟨nm, N', qn, bs, bm, hdct, sn, sub, ab, col, dd, k0, k1, k2, k3, k5, hC, hT⟩ := excInit_of X T.q
  obtain ⟨hp, g, dr, tk, os⟩ := s
  have k : ∀ b o, hp.get? b = some o → ((hp.push (kdv_tup [v])).push (excO C hp.objs.size)).get? b = some o := fun b o e => Heap.get?_push_of_some _ (Heap.get?_push_of_some _ e)
  have hget : ((hp.push (kdv_tup [v])).push (excO C hp.objs.size)).get? (hp.objs.size + 1) = some (excO C hp.objs.size) := by heap_get
  have hnx : K.lookup (hp.objs.size + 1) = none := by
    cases e : K.lookup (hp.objs.size + 1) with
    | none => rfl
    | some o =>
      have z : hp.get? (hp.objs.size + 1) = some o := X _ _ e
      exact absurd (Nat.lt_of_succ_lt (Heap.lt_size z)) (Nat.lt_irrefl _)
  have one : [v].length ≤ sizeLine := by rw [sizeLine_eq]; show 1 ≤ 16777216; omega
  refine call_own PySem.F.excBase_ValueError hT hC (looks_findIn X T.iC) (fun self => bind_fn X self T.tC) one ?_
  refine sup_init (s := ⟨(hp.push (kdv_tup [v])).push (excO C hp.objs.size), g, dr, tk, os⟩) T (mod_keeps M k) hget hnx hroom fun h' tk' dx ⟨k', ⟨t1, hx⟩, dn, dne, hns⟩ => ?_
  have dn : (((hp.push (kdv_tup [v])).push (excO C hp.objs.size))).objs.size ≤ dx := dn
  rw [Heap.size_push, Heap.size_push] at dn
  have dn2 : hp.objs.size ≤ dx := Nat.le_trans (Nat.le_add_right _ 2) dn
  have old : ∀ b o, hp.get? b = some o → h'.get? b = some o := fun b o e => k' b o (Nat.ne_of_lt (Nat.lt_succ_of_lt (Heap.lt_size e))) (k b o e)
  exact ⟨rfl, hq h' tk' (hp.objs.size + 1) dx ⟨old, Nat.le_succ _, ⟨_, _, hx, rfl, rfl, rfl, rfl⟩, dn2, dne, hns⟩⟩
end
theorem relO_one {v : V} {v' : Value} (r : RelV v v') (f y : Str) : RelO (List.lookup y [(f, v)]) (if y = f then some v' else none) := by
  by_cases h : y = f
  · subst h
    simp [List.lookup]
    exact r
  · have e : (y == f) = false := by simpa using h
    simp [List.lookup, e, h]
    trivial
section
variable {X : Cx} {C fI cc cda : Addr} {qual f msg : Str}
/-- C(e) -/
def tMkSup (C : Addr) (f : Str) (ta : TA) : St → Hp → XK → Prop := fun σ H Q => ta σ H fun vs H1 => ∃ v, vs = [v] ∧ ∀ d, H1 d = none → Q (.ref C) (some d) (upd H1 d (.xd [(f, v)]))
theorem pmk_sup {a : Expr} {ta : TA} {x : Str} {p pos : Pos} {k : Nat} (T : SupT X.K X.prog C fI cc cda qual f msg) (gC : X.mg x = some (.ref C)) (hr : Room k X.A) (ha : PA X [a] ta) (hg : Gl X x) (hd : (x == ("__debug__" : Str)) = false := by decide)
    (he : starEach (a :: []) X.env = (false, eval a X.env) :: starEach [] X.env := by rfl) (hpl : (backTo pos (starEach [] X.env)).any (·.1) = false := by rfl) :
    PMk X (.Call (.Name x p) [a] [] pos) (tMkSup C f ta) := by
  intro pins s σ H Q I h
  refine PySem.wpAny_Call_Name_kw (ld_glob I hg gC ?_ hd)
  refine PySem.W.callWith_K (h₀ := X.base) I.ok.mod.kin T.kC (thn (ha.run pos pins s σ H _ I h) ?_) he hpl
  rintro us s1 ⟨vs, H1, I1, r1, v, ev, q1⟩
  subst ev
  refine ⟨I1.kIn, ?_⟩
  obtain ⟨v', eu, rv⟩ := vals1 r1
  subst eu
  show wpAny _ _ (call (.ref C) [v']) _ _ _
  have M1 : Mod X.K X.mg s1.heap := mod_keeps I1.ok.mod I1.bk
  obtain ⟨hp, g, dr, tk, os⟩ := s1
  refine wpAny_call (sup_made T M1 (by have := hr.dp; omega) fun h' tk' e d M => ?_)
  show MkP X pins σ Q (.ref e) ⟨h', g, dr, tk', os⟩
  obtain ⟨oe, fv, hoe, hc, hd, hdat, h1⟩ := M.obj
  have hns := M.ns
  obtain ⟨G', g1, g2⟩ := restrict h' fun b => decide (b ≠ e)
  have gk : ∀ b, b ≠ e → G'.get? b = h'.get? b := fun b hb => g1 b (decide_eq_true hb)
  have ge : G'.get? e = none := g2 e (by simp)
  have old : ∀ b o, hp.get? b = some o → G'.get? b = some o := fun b o q => by
    have l1 := Heap.lt_size q
    have l2 := M.new
    rw [gk b (by intro z; subst z; exact Nat.lt_irrefl _ (Nat.lt_of_lt_of_le l1 l2))]
    exact M.keep b o q
  have ob : ObjOk X.prog X.w (upd H1 d (.xd [(f, v)])) G' d (.xd [(f, v)]) := ⟨_, hns.at (fun o q => (gk d M.dne).trans q), fun y => relO_one rv f y⟩
  have J : Inv X pins σ (upd H1 d (.xd [(f, v)])) ⟨G', g, dr, tk', os⟩ := I1.laid (t' := tk') old M.dbig ob
  refine ⟨e, oe, fv, ⟨G', g, dr, tk', os⟩, _, .ref C, some d, rfl, J, fun b o q => ?_, ge, hoe, ⟨hc, hd⟩, hdat, h1, ?_, rfl, I1.bare, raises_own T.exC T.tyC, q1 d (I1.hok.fresh M.dbig)⟩
  · have q : G'.get? b = some o := q
    have hb : b ≠ e := fun z => by rw [z, ge] at q; cases q
    rw [gk b hb] at q
    exact q
  · rw [upd_ne (Ne.symm M.dne)]
    exact I1.hok.fresh M.new
end
end DL

end

section -- DL15
set_option Elab.async false
set_option linter.all false
set_option maxRecDepth 100000
set_option maxHeartbeats 2000000
/-! DL15: own errors raised, asked for their class, read. -/
namespace DL
open PySem PySem.Spec L2

section
variable {X : Cx} {E : XK}
/-! ### raise -/
@[simp] def dRaise (C : Addr) (f : Str) (u : TAf) : TSf := fun s => aS (u s) fun rs s => match rs with
  | [.sh d] => some (.exc ⟨C, some (f, d)⟩ s.w)
  | _ => none
theorem ds_raise {C fI cc cda : Addr} {qual f msg x : Str} {a : Expr} {u : TAf} {p pos pos2 : Pos} {k : Nat} (hc : X.calm = true) (T : SupT X.K X.prog C fI cc cda qual f msg) (gC : X.mg x = some (.ref C)) (hr : Rm k X.A) (tk : L2.Takes X fun cls d _ H => E cls d H) (ha : DA X E [a] u) (hg : Gl X x)
    (hd : (x == ("__debug__" : Str)) = false := by decide) (he : starEach (a :: []) X.env = (false, eval a X.env) :: starEach [] X.env := by rfl) (hpl : (backTo pos (starEach [] X.env)).any (·.1) = false := by rfl) :
    DS X E (.Raise (some (.Call (.Name x p) [a] [] pos)) none pos2) (dRaise C f u) :=
  ⟨fun G bs => (ps_raise (W := fun cls d _ H => E cls d H) hc tk (pmk_sup T gC hr.rm (ha.run G bs) hg hd he hpl)).imp fun D σ H ⟨s, R, q⟩ => ⟨s.e, s.w, [], R.1, q.firstA fun rs s q vs H1 hl R1 => by
    match rs, q, hl, R1 with
    | [.sh d], q, hl, R1 =>
      match vs, hl, R1 with
      | [v], _, R1 =>
        have rv : Rep X.K (AvP G σ s.e none) H1 v d := R1.pend (v, .sh d) (by simp)
        refine ⟨v, rfl, fun b hb => ?_⟩
        have R2 := R1.alloc (o := .xd [(f, v)]) hb
        have lt : ∀ z, AvE G z → AvP G σ s.e none z := fun z y => y.elim .inl fun y => .inr (.inl y)
        refine q (.ref C) (some b) _ ⟨R2.ext, R2.wr, rfl, b, v, rfl, upd_same, fun y => R1.new hb (lt _ y).to, ?_⟩
        exact (rv.av lt).ch (Ch.new hb) fun z y => y
    | [], q, _, _ => exact q.elim
    | .no :: _, q, _, _ => exact q.elim
    | .own _ :: _, q, _, _ => exact q.elim
    | .lck _ :: _, q, _, _ => exact q.elim
    | .dr :: _, q, _, _ => exact q.elim
    | .sh _ :: _ :: _, q, _, _ => exact q.elim⟩⟩

/-! ### isinstance(e, X), X own -/
/-- what is asked, by a class of one's own -/
def rIsX (K : PySem.W.Frag) : List V → Hp → VK → Prop := fun xs H Q => ∃ (x : V) (C : Addr) (b : Bool), xs = [x, .ref C] ∧ Q (.bl b) H ∧
  ((∃ t, TyX K H x t ∧ PySem.W.kitOne K t (.ref C) = some b) ∨ ∃ (a B : Addr) (dd : Option Addr), x = .ref a ∧ H a = some (ExV B dd a) ∧ (∀ d, dd = some d → ∃ fs, H d = some (.xd fs)) ∧ L2.ExcC K B ∧ PySem.W.kitOne K (.ref B) (.ref C) = some b)
theorem call_isX : CallR X (.builtin "isinstance") (rIsX X.K) := by
  intro pins s σ H xs us Q I r ⟨x, C, b, e, q, h⟩
  subst e
  obtain ⟨u1, u2, e, r1, r2⟩ := vals2 r
  subst e
  obtain rfl : u2 = Value.ref C := r2
  rcases h with ⟨t, ty, e⟩ | ⟨a, B, dd, ex, ha, hd, c, e⟩
  · obtain ⟨P, Z, p, hx⟩ := kit_of I r1 ty
    exact PySem.W.kia_one Z I.kIn p e hx fun tk => ⟨.bl b, H, I.tok tk, rfl, q⟩
  · subst ex
    obtain rfl : u1 = Value.ref a := r1
    obtain ⟨⟨oe, vs, g1, z, g2⟩, _, _⟩ := I.hok a _ ha
    have hcl : (PySem.W.clsIn X.K B).isSome = true := by
      obtain ⟨cd, hc, _⟩ := PySem.W.any_some c.hd
      rw [hc]; rfl
    have inst : ∃ od, PySem.W.InstAt s.heap a oe B od := by
      obtain ⟨oc, odd, oda, osl⟩ := oe
      obtain ⟨h1, h2⟩ := z
      dsimp only at h1 h2 g2
      subst h1; subst g2
      rw [← h2] at hd
      cases odd with
      | none => exact ⟨none, g1, rfl, rfl, trivial⟩
      | some d =>
        obtain ⟨fs, hf⟩ := hd d rfl
        obtain ⟨mA, hns, _⟩ : ObjOk X.prog X.w H s.heap d (.xd fs) := I.hok d _ hf
        obtain ⟨od, ho, _⟩ := lookIn_ns hns
        exact ⟨some od, g1, rfl, rfl, ho⟩
    obtain ⟨od, J⟩ := inst
    exact PySem.W.kia_one (PySem.W.kitx_exc hcl c.hg c.hk c.hs c.ha c.hn c.ht c.hm) I.kIn J e (fun z => nomatch z) fun tk => ⟨.bl b, H, I.kept (t' := tk) fun _ _ z => z, rfl, q⟩
open Classical in
noncomputable def gIsX (K : PySem.W.Frag) : GL := fun ds => match ds with
  | [.exn0 B, .raw (.ref C)] => if L2.ExcC K B then (PySem.W.kitOne K (.ref B) (.ref C)).map fun b => .sh (.bl b) else none
  | [.exn1 B _ _, .raw (.ref C)] => if L2.ExcC K B then (PySem.W.kitOne K (.ref B) (.ref C)).map fun b => .sh (.bl b) else none
  | [d, .raw (.ref C)] => match dTy d with
    | some t => (PySem.W.kitOne K (.type t) (.ref C)).map fun b => .sh (.bl b)
    | none => none
  | _ => none
open Classical in
theorem gIsX_exn1 {K : PySem.W.Frag} {B C : Addr} {n : Str} {d : D} {b : Bool} (h : L2.ExcC K B) (k : PySem.W.kitOne K (.ref B) (.ref C) = some b) : gIsX K [.exn1 B n d, .raw (.ref C)] = some (.sh (.bl b)) := by
  show (if L2.ExcC K B then (PySem.W.kitOne K (.ref B) (.ref C)).map fun b => Sl.sh (.bl b) else none) = _
  rw [if_pos h, k]; rfl
open Classical in
theorem gIsX_exn0 {K : PySem.W.Frag} {B C : Addr} {b : Bool} (h : L2.ExcC K B) (k : PySem.W.kitOne K (.ref B) (.ref C) = some b) : gIsX K [.exn0 B, .raw (.ref C)] = some (.sh (.bl b)) := by
  show (if L2.ExcC K B then (PySem.W.kitOne K (.ref B) (.ref C)).map fun b => Sl.sh (.bl b) else none) = _
  rw [if_pos h, k]; rfl
theorem gIsX_non {K : PySem.W.Frag} {C : Addr} {b : Bool} (k : PySem.W.kitOne K (.type "NoneType") (.ref C) = some b) : gIsX K [.non, .raw (.ref C)] = some (.sh (.bl b)) := by
  unfold gIsX
  simp only [dTy, k, Option.map_some]
theorem Rep.exn0_inv {K : PySem.W.Frag} {Av : AS} {H : Hp} {v : V} {C : Addr} (r : Rep K Av H v (.exn0 C)) : ∃ a, v = .ref a ∧ H a = some (ExV C none a) := by
  cases r with
  | exn0 h n => exact ⟨_, rfl, h⟩
theorem ok_isX : CallOk X (rIsX X.K) (gIsX X.K) := by
  intro G bs σ e w pd H vs ds R Q S r hg q
  unfold gIsX at hg
  split at hg
  · rename_i B C
    obtain ⟨v1, v2, e1, r1, r2⟩ := r.two
    obtain ⟨a, ea, ha⟩ := r1.exn0_inv
    split at hg
    · rename_i hc
      cases hk : PySem.W.kitOne X.K (.ref B) (.ref C) with
      | none => rw [hk] at hg; cases hg
      | some b =>
        rw [hk] at hg; cases hg
        exact ⟨v1, C, b, by rw [e1, r2.raw_inv], q.bl S, .inr ⟨a, B, none, ea, ha, (fun d h => by cases h), hc, hk⟩⟩
    · cases hg
  · rename_i B n d C
    obtain ⟨v1, v2, e1, r1, r2⟩ := r.two
    obtain ⟨a, b2, u, ea, ha, hb, _⟩ := r1.exn1_inv
    split at hg
    · rename_i hc
      cases hk : PySem.W.kitOne X.K (.ref B) (.ref C) with
      | none => rw [hk] at hg; cases hg
      | some b =>
        rw [hk] at hg; cases hg
        exact ⟨v1, C, b, by rw [e1, r2.raw_inv], q.bl S, .inr ⟨a, B, some b2, ea, ha, (fun d h => by cases h; exact ⟨_, hb⟩), hc, hk⟩⟩
    · cases hg
  · rename_i d C _ _
    obtain ⟨v1, v2, e1, r1, r2⟩ := r.two
    cases ht : dTy d with
    | none => rw [ht] at hg; cases hg
    | some t =>
      rw [ht] at hg
      simp only at hg
      cases hk : PySem.W.kitOne X.K (.type t) (.ref C) with
      | none => rw [hk] at hg; cases hg
      | some b =>
        rw [hk] at hg; cases hg
        exact ⟨v1, C, b, by rw [e1, r2.raw_inv], q.bl S, .inl ⟨_, r1.tyx ht, hk⟩⟩
  · cases hg
/-- an own class by its name -/
theorem de_cls {x : Str} {C : Addr} {pos : Pos} (hg : Gl X x) (hm : X.mg x = some (.ref C)) (hd : (x == ("__debug__" : Str)) = false := by decide) : DE X E (.Name x pos) (dC (.raw (.ref C))) := de_glob hg hm (v := .ref C) rfl (fun _ _ => .raw _) hd

/-! ### e.f -/
open Classical in
@[simp] noncomputable def dXf (K : PySem.W.Frag) (n : Str) (t : TEf) : TEf := fun s => eB (t s) fun x s => match x with
  | .sh (.exn1 C m d) => if XfC K C ∧ PySem.W.findIn K (.ref C) n = some none ∧ m = n then some (.val (.sh d) s) else none
  | _ => none
theorem de_xf {e : Expr} {t : TEf} {n : Str} {pos : Pos} (he : DE X E e t) (hb : attributeBase e n X.env (eval e X.env) = eval e X.env := by rfl) : DE X E (.Attribute e n pos) (dXf X.K n t) := ⟨fun G bs => by
  refine ⟨fun pins s σ H Q I h => ?_⟩
  obtain ⟨e0, w0, pd, R, h⟩ := h
  refine attr_of hb (thn ((he.run G bs).run pins s σ H _ I ⟨e0, w0, pd, R, h.first (Q' := fun x H1 => ∃ (a C b : Addr) (v : V), x = .ref a ∧ H1 a = some (ExV C (some b) a) ∧ H1 b = some (.xd [(n, v)]) ∧ XfC X.K C ∧ PySem.W.findIn X.K (.ref C) n = some none ∧ Q v H1) fun x s h v x1 H1 R1 r1 => ?_⟩) fun u s1 ⟨x, H1, I1, rx, a, C, b, v, ex, ha, hbx, T, hno, q⟩ => ?_)
  · match x, h, r1 with
    | .sh (.exn1 C m d), h, r1 =>
      simp only at h
      obtain ⟨a, b, u, ea, ha, hbx, ru⟩ := r1.2.exn1_inv
      by_cases hc : XfC X.K C ∧ PySem.W.findIn X.K (.ref C) n = some none ∧ m = n
      · rw [if_pos hc] at h
        obtain ⟨h1, h2, h3⟩ := hc
        have ex : x1 = none := r1.1
        subst ex
        rw [h3] at hbx
        exact ⟨a, C, b, u, ea, ha, hbx, h1, h2, h u none H1 R1 ⟨rfl, ru⟩⟩
      · rw [if_neg hc] at h; exact h.elim
    | .no, h, _ => exact h.elim
    | .own _, h, _ => exact h.elim
    | .lck _, h, _ => exact h.elim
    | .dr, h, _ => exact h.elim
    | .sh .non, h, _ => exact h.elim
    | .sh (.bl _), h, _ => exact h.elim
    | .sh (.int _), h, _ => exact h.elim
    | .sh (.str _), h, _ => exact h.elim
    | .sh (.tup _), h, _ => exact h.elim
    | .sh (.lst _), h, _ => exact h.elim
    | .sh (.dk _), h, _ => exact h.elim
    | .sh (.dt _), h, _ => exact h.elim
    | .sh (.raw _), h, _ => exact h.elim
    | .sh (.fn _ _ _ _ _), h, _ => exact h.elim
    | .sh (.exn0 _), h, _ => exact h.elim
  · subst ex
    obtain rfl : u = Value.ref a := rx
    obtain ⟨⟨oe, vs, g1, z, g2⟩, _, _⟩ := I1.hok a _ ha
    obtain ⟨mA, hns, hr⟩ : ObjOk X.prog X.w H1 s1.heap b (.xd [(n, v)]) := I1.hok b _ hbx
    obtain ⟨od, ho, hl⟩ := lookIn_ns hns
    have l : List.lookup n [(n, v)] = some v := by simp [List.lookup]
    obtain ⟨u, hu, ru⟩ := RelO.some_of (v := v) (o := mA n) (by rw [← l]; exact hr n)
    have J : PySem.W.InstAt s1.heap a oe C (some od) := ⟨g1, z.1, by unfold PySem.W.notCls; rw [g2] <;> rfl, by rw [z.2]; exact ho⟩
    exact HandSPX.exc_get I1.kIn J T.ga T.gg T.exC (PySem.W.findObj_own T.hdC hno rfl (by rw [hl, hu])) (handed_of ru) ⟨v, H1, I1.tok _, ru, q⟩⟩
end
end DL

end

section -- DL16
set_option Elab.async false
set_option linter.all false
set_option maxRecDepth 100000
set_option maxHeartbeats 2000000
/-! DL16: a try whose clause keeps the error as a value. -/
namespace DL
open PySem PySem.Spec L2

section
variable {X : Cx} {pins : List (Addr × Obj)} {σ : St} {H : Hp} {s : Shared}
/-- a caught error is told of from now on -/
theorem inv_track {a C : Addr} {d : Option Addr} {oe : Obj} {vs : Array Value} (I : Inv X ((a, oe) :: pins) σ H s) (hp : ∀ p ∈ X.pn ++ pins, p.1 ≠ a) (n0 : X.s_0.heap.get? a = none) (z : Zc (.ref C) d oe) (hd : oe.data = .fields vs) :
    Inv X pins σ (upd H a (ExV C d a)) s := by
  obtain ⟨ga, na, nl, nf, nc⟩ := I.pin (a, oe) (List.mem_append_right _ List.mem_cons_self)
  have ga : s.heap.get? a = some oe := ga
  have na : H a = none := na
  have ne0 : ∀ b o, X.s_0.heap.get? b = some o → b ≠ a := fun b o e y => by rw [y, n0] at e; cases e
  have neT : ∀ b o, H b = some o → b ≠ a := fun b o e => ne_of_none e na
  refine ⟨I.ok, I.os, I.bare, ⟨I.base.keep, I.base.slot, fun b o e n x => ?_, I.base.there, fun b xs e => ?_, fun b o u e => ?_, fun b ps e => ?_⟩, I.loc, I.cell, ?_, fun y c e => ?_, fun p h => ?_, fun b u e => ?_, I.len⟩
  · rw [upd_ne (ne0 b o e)]
    exact I.base.free b o e n x
  · have q := I.base.tups b xs e
    rw [upd_ne (neT _ _ q)]; exact q
  · have q := I.base.frzs b o u e
    rw [upd_ne (neT _ _ q)]; exact q
  · obtain ⟨m, q⟩ := I.base.tbls b ps e
    exact ⟨m, by rw [upd_ne (neT _ _ q)]; exact q⟩
  · rw [upd_ne (fun y => nl y.symm)]; exact I.free
  · have ca : c ≠ a := fun y => by
      obtain ⟨w, o, e1, e2⟩ := I.cell _ c e
      rw [y, ga] at e1
      cases e1
      exact nc _ e2
    rw [upd_ne ca]; exact I.freeC _ c e
  · obtain ⟨h1, h2, h3⟩ := I.pin p (by
      rcases List.mem_append.mp h with h | h
      · exact List.mem_append_left _ h
      · exact List.mem_append_right _ (List.mem_cons_of_mem _ h))
    exact ⟨h1, by rw [upd_ne (hp p h)]; exact h2, h3⟩
  · by_cases hb : b = a
    · subst hb
      rw [upd_same] at e
      cases e
      exact ⟨⟨oe, vs, ga, z, hd⟩, ⟨oe, ga⟩, fun h1 h2 ⟨o, v, e1, e2, e3⟩ st => ⟨o, v, st _ e1, e2, e3⟩⟩
    · rw [upd_ne hb] at e
      exact (I.hok b u e).stay (fun _ _ _ q => q) (fun c q => by rw [upd_ne (neT _ _ q)]; exact q) fun c xs q => by rw [upd_ne (neT _ _ q)]; exact q
end
/-- what the clause wishes of an error: it is kept at slot j -/
def wKept (K : PySem.W.Frag) (c : Value) (i j n : Nat) (D : Ends) : WX := fun cls d σ H => ∃ C, cls = .ref C ∧ PySem.W.exmOne K cls c = some true ∧ ∀ a, H a = none → σ.length = n → D.nx (((σ.set i (some (.ref a))).set j (some (.ref a))).set i none) (upd H a (ExV C d a))
section
variable {X : Cx} {x n y : Str} {c : Value} {i j : Nat} {body : List Stmt} {np p1 p2 p3 pos pos' : Pos} {tb : WX → TS}
/-- try: body / except x as n: y = n -/
theorem ps_kept (hs : X.stack = X.env :: X.outer) (hf : X.env.frame = some X.env.locals) (hex : X.ex = []) (hN : X.N.Nodup) (hi : X.N[i]? = some n) (hj : X.N[j]? = some y) (hln : X.env.kindOf n = some .local) (hly : X.env.kindOf y = some .local) (hfx : X.calm = true) (hc : Names X x c)
    (hb : ∀ (W : WX) (pn : List (Addr × Obj)) (xe : Value → Shared → Prop), L2.Takes (X.tr pn xe) W → PassesOwn (model X.prog X.w) X.A X.env xe → PSs (X.tr pn xe) body (tb W))
    (hd : (n == ("__debug__" : Str)) = false := by decide) (hcd : (n == ("__classdict__" : Str)) = false := by decide) (hsw : swapsWith (.Name n p2) (some (.Name y p1)) p3.line X.env = pure false := by rfl) :
    PS X (.Try body [.ExceptHandler (some (.Name x np)) (some n) [.Assign [.Name y p1] (.Name n p2) p3] pos'] [] [] pos) (fun D σ H => tb (wKept X.K c i j X.N.length D) D σ H) := by
  constructor
  intro pins s σ H D I h
  have ok := I.ok
  have frames : X.A.frames = some (X.env :: X.outer) := by rw [ok.frames, hs]
  have main := (hb (wKept X.K c i j X.N.length D) (X.pn ++ pins) (fun e s₁ => wpAny (model X.prog X.w) X.A (noteFrame e X.env) (fun _ s₂ => wpAny (model X.prog X.w) X.A (setFlight e none) (fun _ s₃ =>
    wpAny (model X.prog X.w) X.A (handleBy e X.env [.ExceptHandler (some (.Name x np)) (some n) [.Assign [.Name y p1] (.Name n p2) p3] pos']) (SP X pins D) X.xe s₃) X.xe s₂) X.xe s₁) ?caught PassesOwn.looking).run [] s σ H D (I.toTry _) h
  case caught =>
    intro u s' up
    obtain ⟨a, B, sI, pins', σ', H', cls, d, eu, J', nb, slots, sky, na, os, ag, C, ec, hyes, fin⟩ := up
    subst eu
    subst ec
    have J : Inv X pins σ' H' sI := J'.ofTry ok
    have sky' : Sky B (X.env :: X.outer) a (Zc (.ref C) d) X.env.locals s'.heap := by rw [← hs]; exact sky
    have gB : B.get? a = none := by
      rcases sky' with ⟨_, z, _⟩ | ⟨_, z, _⟩ | ⟨_, z, _⟩ <;> exact z
    show wpAny (model X.prog X.w) X.A (noteFrame (.ref a) X.env) _ _ _
    refine Sky.land Zc.steady frames hf sky' fun h3 fl3 up3 => ?_
    have J3 : Inv X pins σ' H' { s' with heap := h3 } := J.landed nb fl3.1 (slots.trans up3) os ag
    obtain ⟨o3, v3, g3, z3, d3⟩ := fl3.there
    have noFrame : a ∉ frs (X.env :: X.outer) := fun hm => by
      obtain ⟨_, o', e', hn⟩ := fl3.2.2.1.mem hm
      rw [g3] at e'; cases e'
      exact hn _ d3
    have nL : a ≠ X.env.locals := fun z => noFrame (List.mem_filterMap.mpr ⟨X.env, List.mem_cons_self, by rw [hf, z]⟩)
    have nF : a ∉ X.fs := fun hm => by
      obtain ⟨e, he, q⟩ := List.mem_filterMap.mp hm
      exact noFrame (List.mem_filterMap.mpr ⟨e, List.mem_cons_of_mem _ he, q⟩)
    have gI : sI.heap.get? a = none := by
      cases q : sI.heap.get? a with
      | none => rfl
      | some o =>
        have q2 := nb a o q (by rw [hs]; exact noFrame)
        rw [gB] at q2; cases q2
    have g0 : X.s_0.heap.get? a = none := by
      cases q : X.s_0.heap.get? a with
      | none => rfl
      | some o =>
        obtain ⟨o', q2⟩ := J.base.there a o q (by rw [hex]; simp)
        rw [gI] at q2; cases q2
    have pinA : ∀ p ∈ X.pn ++ pins, p.1 ≠ a := fun p hp z => by
      have q := (J.pin p hp).1
      rw [z, gI] at q; cases q
    have S3 := J3.suite g3 d3 na nL nF
    refine wpAny_handleBy_cons (codeAny_handlers_test ?_) (by intro q; cases q)
    have LT : PySem.W.Looks (model X.prog X.w) h3 (typeOf (.ref a)) (.ref C) := fun A Q E s k q => wpAny_typeOf_ref (k _ _ g3) (by rw [z3.1]; exact q)
    have LM := PySem.W.exm_one (M := model X.prog X.w) J3.kIn LT hyes
    have test : ∀ {Q : Value → Shared → Prop} {E : Value → Shared → Prop}, Q c { s' with heap := h3 } → wpAny (model X.prog X.w) (X.A.mark (some (.ref a))) (eval (.Name x np) X.env) Q E { s' with heap := h3 } := by
      intro Q E q
      obtain ⟨hg, hdbg, k⟩ := hc
      rcases k with hm | ⟨hm, hv, hnn⟩
      · exact ld_glob (X := X.suite a ((a, o3) :: (X.pn ++ pins))) S3 hg hm q hdbg
      · exact ld_blt (X := X.suite a ((a, o3) :: (X.pn ++ pins))) S3 hg hm hv q hnn hdbg
    refine test (LM.here ?_)
    refine codeAny_handlers_suite_as (HandSPX.lands_againZ fl3 fun h4 fl4 up4 => ?_)
    have J4 : Inv X pins σ' H' { s' with heap := h4 } := J.landed nb fl4.1 ((slots.trans up3).trans up4) os ag
    obtain ⟨o4, v4, g4, z4, d4⟩ := fl4.there
    have S4 := J4.suite g4 d4 na nL nF
    refine store_ok (X := X.suite a ((a, o4) :: (X.pn ++ pins))) (v := .ref a) S4 hN hi (.inl hln) rfl (fun s5 S5 => ?_) (.inr hln)
    have hset : PSs (X.suite a ((a, o4) :: (X.pn ++ pins))) [.Assign [.Name y p1] (.Name n p2) p3] (fun D σ H => ∃ v, σ[i]? = some (some v) ∧ D.nx (σ.set j (some v)) H) :=
      pss_one (PS.imp (X := X.suite a ((a, o4) :: (X.pn ++ pins))) (ps_set (X := X.suite a ((a, o4) :: (X.pn ++ pins))) (i := j) hN hj (.inl hly) (pe_var (X := X.suite a ((a, o4) :: (X.pn ++ pins))) (i := i) hi (.inl hln) hd hcd) hsw (.inr hly)) fun D σ H z => z)
    have li : i < σ'.length := by
      rw [J.len]
      exact (List.getElem?_eq_some_iff.mp hi).1
    have goal := hset.run [] s5 _ H' { nx := fun σ6 H6 => σ6 = (σ'.set i (some (.ref a))).set j (some (.ref a)) ∧ H6 = H', rt := fun _ _ => False, bk := fun _ _ => False, ct := fun _ _ => False } S5 ⟨.ref a, by rw [List.getElem?_set_self li], rfl, rfl⟩
    refine wpAny_mono goal (fun f s6 hsp => ?_) (fun _ _ z => False.elim z)
    cases f with
    | next =>
      obtain ⟨σ6, H6, S6, e6, eH⟩ := hsp
      subst e6; subst eH
      have T6 : Inv X ((a, o4) :: pins) ((σ'.set i (some (.ref a))).set j (some (.ref a))) H6 s6 := ⟨ok, S6.os, S6.bare, S6.base, S6.loc, S6.cell, S6.free, S6.freeC, fun p hp => S6.pin p (by
        rcases List.mem_append.mp hp with h | h
        · exact List.mem_append_left _ (List.mem_cons_of_mem _ (List.mem_append_left _ h))
        · rcases List.mem_cons.mp h with e | h
          · rw [e]; exact List.mem_append_left _ List.mem_cons_self
          · exact List.mem_append_left _ (List.mem_cons_of_mem _ (List.mem_append_right _ h))), S6.hok, S6.len⟩
      exact gone_ok T6 hN hi hln fun s7 T7 => ⟨_, _, inv_track T7 pinA g0 z4 d4, fin a na J.len⟩
    | brk => obtain ⟨_, _, _, q⟩ := hsp; exact q.elim
    | cont => obtain ⟨_, _, _, q⟩ := hsp; exact q.elim
    | ret u => obtain ⟨_, _, _, _, _, q⟩ := hsp; exact q.elim
  refine wpAny_Try_except (wpAny_mono main (fun f s1 hsp => ?_) (fun e s1 he => he))
  cases f with
  | next =>
    obtain ⟨σ', H', J', q⟩ := hsp
    exact wpAny_execs_nil ⟨σ', H', J'.ofTry ok, q⟩
  | brk => obtain ⟨σ', H', J', q⟩ := hsp; exact ⟨σ', H', J'.ofTry ok, q⟩
  | cont => obtain ⟨σ', H', J', q⟩ := hsp; exact ⟨σ', H', J'.ofTry ok, q⟩
  | ret u => obtain ⟨v, σ', H', J', r, q⟩ := hsp; exact ⟨v, σ', H', J'.ofTry ok, r, q⟩
end
end DL

end

section -- DL17
set_option Elab.async false
set_option linter.all false
set_option maxRecDepth 100000
set_option maxHeartbeats 2000000
/-! DL17: functions as values: called, caught. -/
namespace DL
open PySem PySem.Spec L2
open PyProof.Rows (envOfC)

/-! ### the try as a function -/
def exnD (C : Addr) : Option (Str × D) → D
  | none => .exn0 C
  | some (n, d) => .exn1 C n d
open Classical in
noncomputable def dKept (K : PySem.W.Frag) (c : Value) (n i j : Nat) (t : TSf) : TSf := fun s => match t s with
  | some (.nx s2) => some (.nx s2)
  | some (.exc x w) => if PySem.W.exmOne K (.ref x.cls) c = some true ∧ i < n ∧ j < n ∧ i ≠ j then some (.nx ⟨w, (List.replicate n Sl.no).set j (.sh (exnD x.cls x.f))⟩) else none
  | _ => none
section
variable {X : Cx} {E : XK}
theorem pss_lift {G : GC} {bs : Bs} {st : Stmt} {rest : List Stmt} {t u : TSf} (h : PS X st (liftS X.K G bs E t)) (h2 : PSs X rest (liftS X.K G bs E u)) : PSs X (st :: rest) (liftS X.K G bs E (dSeq t u)) :=
  (pss_cons h h2).imp fun D σ H ⟨s, R, q⟩ => ⟨s, R, by
    unfold dSeq at q
    match ts : t s with
    | some (.nx s') => rw [ts] at q; exact fun σ' H' R' => ⟨s', R', q⟩
    | some (.rt r s') => rw [ts] at q; exact q
    | some (.bk s') => rw [ts] at q; exact q
    | some (.ct s') => rw [ts] at q; exact q
    | some (.exc x w) => rw [ts] at q; exact q
    | none => rw [ts] at q; exact q.elim⟩
theorem getE_no {n : Nat} {i : Nat} {s : Sl} (h : (List.replicate n Sl.no)[i]? = some s) : s = .no := List.eq_of_mem_replicate (List.mem_of_getElem? h)
/-- nothing is known of the slots -/
theorem SRep.bare {K : PySem.W.Frag} {G : GC} {σ : St} {w : W} {H : Hp} (hl : σ.length = n) (c : Ch (DrS G.dr) G.H0 H) (dom : ∀ b, G.A b → Solid G.H0 b) (drd : ∀ b, DrS G.dr b → G.H0 b ≠ none) (wr : WRep G.dr w H) : SRep K G [] σ (List.replicate n Sl.no) w [] none H :=
  ⟨by rw [List.length_replicate, hl], c, dom, drd, wr, (fun i sl ov h1 h2 => by rw [getE_no h1]; exact True.intro), (fun i j d d' a h1 _ _ _ => by rcases h1 with h | h <;> cases getE_no h), (fun p hp => absurd hp (by simp)), (fun p hp => absurd hp (by simp)), fun a h => by cases h⟩
theorem ps_keptD {G : GC} {x n y : Str} {c : Value} {i j : Nat} {body : List Stmt} {np p1 p2 p3 pos pos' : Pos} {t : TSf} (hs : X.stack = X.env :: X.outer) (hf : X.env.frame = some X.env.locals) (hex : X.ex = []) (hN : X.N.Nodup) (hi : X.N[i]? = some n) (hj : X.N[j]? = some y) (hln : X.env.kindOf n = some .local) (hly : X.env.kindOf y = some .local) (hfx : X.calm = true)
    (hc : Names X x c) (hb : ∀ (E' : XK) (pn : List (Addr × Obj)) (xe : Value → Shared → Prop), L2.Takes (X.tr pn xe) (fun cls d _ H => E' cls d H) → DSs (X.tr pn xe) E' body t)
    (hd : (n == ("__debug__" : Str)) = false := by decide) (hcd : (n == ("__classdict__" : Str)) = false := by decide) (hsw : swapsWith (.Name n p2) (some (.Name y p1)) p3.line X.env = pure false := by rfl) :
    PS X (.Try body [.ExceptHandler (some (.Name x np)) (some n) [.Assign [.Name y p1] (.Name n p2) p3] pos'] [] [] pos) (liftS X.K G [] E (dKept X.K c X.N.length i j t)) := by
  refine (ps_kept (tb := fun W D σ H => ∃ E' : XK, (∀ cls d σ H, E' cls d H → W cls d σ H) ∧ liftS X.K G [] E' t D σ H) hs hf hex hN hi hj hln hly hfx hc (fun W pn xe tk _ => ?_) hd hcd hsw).imp fun D σ H ⟨s, R, q⟩ => ?_
  · exact ⟨fun pins s σ H D I ⟨E', hE, h⟩ => ((hb E' pn xe (tk.imp fun cls d σ H z => hE cls d σ H z)).run G []).run pins s σ H D I h⟩
  · unfold dKept at q
    match ht : t s with
    | none => rw [ht] at q; exact q.elim
    | some (.nx s2) =>
      rw [ht] at q
      exact ⟨fun _ _ _ => False, fun _ _ _ _ z => z.elim, s, R, by rw [ht]; exact q⟩
    | some (.rt r s2) => rw [ht] at q; exact q.elim
    | some (.bk s2) => rw [ht] at q; exact q.elim
    | some (.ct s2) => rw [ht] at q; exact q.elim
    | some (.exc ex w) =>
      rw [ht] at q
      simp only at q
      by_cases hcc : PySem.W.exmOne X.K (.ref ex.cls) c = some true ∧ i < X.N.length ∧ j < X.N.length ∧ i ≠ j
      · rw [if_pos hcc] at q
        obtain ⟨he, li, lj, ne⟩ := hcc
        refine ⟨fun cls d H => ∃ C, cls = .ref C ∧ PySem.W.exmOne X.K cls c = some true ∧ ∀ a, H a = none → ∀ σ : St, σ.length = X.N.length → D.nx (((σ.set i (some (.ref a))).set j (some (.ref a))).set i none) (upd H a (ExV C d a)), fun cls d σ H ⟨C, e1, e2, e3⟩ => ⟨C, e1, e2, fun a ha hl => e3 a ha σ hl⟩, s, R, ?_⟩
        rw [ht]
        intro cls dd H' ⟨ch, wr, ec, xr⟩
        refine ⟨ex.cls, ec, by rw [ec]; exact he, fun a na σ hl => ?_⟩
        have hl2 : (((σ.set i (some (.ref a))).set j (some (V.ref a))).set i none).length = X.N.length := by simp [hl]
        have R0 := SRep.bare (K := X.K) hl2 ch R.1.dom R.1.drd wr
        have R1 := R0.alloc (o := ExV ex.cls dd a) na
        have nA : ¬ AvA G (((σ.set i (some (.ref a))).set j (some (V.ref a))).set i none) (List.replicate X.N.length Sl.no) none a := R0.new na
        have lt : ∀ b, AvA G (((σ.set i (some (.ref a))).set j (some (V.ref a))).set i none) (List.replicate X.N.length Sl.no) none b → AvE G b := fun b z => by
          rcases z with z | z | ⟨k, d, h, _⟩ | z
          · exact .inl z
          · exact .inr z
          · rcases h with h | h <;> cases getE_no h
          · cases z
        have rp : Rep X.K (AvA G (((σ.set i (some (.ref a))).set j (some (V.ref a))).set i none) (List.replicate X.N.length Sl.no) none) (upd H' a (ExV ex.cls dd a)) (.ref a) (exnD ex.cls ex.f) := by
          cases hff : ex.f with
          | none =>
            rw [hff] at xr
            have xr : dd = none := xr
            subst xr
            exact .exn0 upd_same nA
          | some p =>
            obtain ⟨n, d⟩ := p
            rw [hff] at xr
            obtain ⟨b, v, ed, hb, nb, rv⟩ := xr
            subst ed
            refine .exn1 upd_same nA (by rw [upd_ne (ne_of_none hb na)]; exact hb) (fun z => nb (lt _ z)) ((rv.av lt).ch (Ch.new na) fun z y => y)
        have R2 := R1.storeA (i := j) rp (by rw [List.length_replicate]; exact lj)
        have es : ((((σ.set i (some (.ref a))).set j (some (V.ref a))).set i none).set j (some (.ref a))) = (((σ.set i (some (.ref a))).set j (some (V.ref a))).set i none) := by
          rw [List.set_comm _ _ (Ne.symm ne), List.set_set, List.set_comm _ _ ne]
        rw [es] at R2
        exact q _ _ ⟨R2.1, R2.2 fun k d h => by cases getE_no h⟩
      · rw [if_neg hcc] at q; exact q.elim
/-! ### a function without parameters as a value -/
structure Thk (P : Program) (w : World) (K : PySem.W.Frag) (mg : Str → Option Value) (base : Heap) (k : Nat) (f c : Addr) (q : Str) (vs : List V) (ds : List D) (F : W → Option Fl) : Prop where
  obj : PySem.W.FnAt f base
  run : ∀ (A : Around) (fs : List Env) (s : Shared) (H : Hp) (Q : VK) (E : XK) (Av : AS) (dr : Option Dr) (w0 : W), Rm k A → Env0 P w K mg base A fs s H → (∀ b, Av b → Solid H b) → WRep dr w0 H → H c = some (LamX.CodeO c q) → ¬ DrS dr c →
    RepAll K (fun b => Av b ∨ DrS dr b) H vs ds → FEnd K Av dr H Q E (F w0) → codeAny (model P w) A (.call (.ref f) ⟨[], []⟩) (CR (L2.CX P w) fs P w H s Q E) s
open Classical in
noncomputable def dThk (i : Nat) (d : D) (F : W → Option Fl) : TEf := fun s => if s.e[i]? = some (.sh d) then callEnd s.e (F s.w) else none
theorem de_thk {k i : Nat} {f c : Addr} {q x : Str} {vs : List V} {ds : List D} {F : W → Option Fl} {p1 p2 : Pos} (T : Thk X.prog X.w X.K X.mg X.base k f c q vs ds F) (hr : Rm k X.A) (tk : L2.Takes X fun cls d _ H => E cls d H) (hN : X.N[i]? = some x) (hv : Vis X.env.scope x) (hd : (x == ("__debug__" : Str)) = false := by decide)
    (hcd : (x == ("__classdict__" : Str)) = false := by decide) : DE X E (.Call (.Name x p1) [] [] p2) (dThk i (.fn f c q vs ds) F) := ⟨fun G bs => by
  refine ⟨fun pins s σ H Q I h => ?_⟩
  obtain ⟨e, w, pd, R, h⟩ := h
  unfold dThk at h
  by_cases he : e[i]? = some (.sh (.fn f c q vs ds))
  · rw [if_pos he] at h
    obtain ⟨v, e1, r⟩ := R.getSh he
    obtain ⟨ev, hc, nc, rc⟩ := r.2.fn_inv
    subst ev
    refine PySem.wpAny_Call_Name_kw (thn ((pe_var (pos := p1) (i := i) hN hv hd hcd).run pins s σ H (fun v H1 => v = .ref f ∧ H1 = H) I ⟨.ref f, e1, rfl, rfl⟩) fun u s1 ⟨v, H1, I1, r1, ev, eH⟩ => ?_)
    subst ev; subst eH
    obtain rfl : u = Value.ref f := r1
    have fo : PySem.W.FnAt f s1.heap := by
      obtain ⟨a, b, c, d, g⟩ := T.obj
      exact ⟨a, b, c, d, I1.bk _ _ g⟩
    refine PySem.W.callWith_F0 fo ?_
    have lt : ∀ b, (G.A b ∨ Own1 σ e b) ∨ DrS G.dr b → AvP G σ e none b := fun b z => by
      rcases z with (z | z) | z
      · exact .inl z
      · exact .inr (.inr (.inl z))
      · exact .inr (.inl z)
    have fe : FEnd X.K (fun b => G.A b ∨ Own1 σ e b) G.dr H1 Q E (F w) := fend_of (s := ⟨w, e⟩) R h
    have run := T.run X.A X.stack s1 H1 Q E (fun b => G.A b ∨ Own1 σ e b) G.dr w hr I1.env0 (fun b z => R.solid (lt b (.inl z))) R.wr hc (fun z => nc (.inr (.inl z))) (rc.av lt) fe
    refine wpAny_call (codeAny_mono run ?_)
    intro r s' z
    match r, z with
    | .error e, z => exact passAt (W := fun cls d _ H => E cls d H) tk σ pins H1 s1 e s' I1 z
    | .ok (.ret u), z => exact I1.after z
    | .ok .next, z => exact z.elim
    | .ok .brk, z => exact z.elim
    | .ok .cont, z => exact z.elim
  · rw [if_neg he] at h; exact h.elim⟩
end
end DL

end

section -- DL18
set_option Elab.async false
set_option linter.all false
set_option maxRecDepth 100000
set_option maxHeartbeats 2000000
/-! DL18: a lambda made, handed to a def, run there. -/
namespace DL
open PySem PySem.Spec L2
open PyProof.Rows (envOfC)

section
variable {X : Cx} {pins : List (Addr × Obj)} {σ : St} {H : Hp} {s : Shared}
/-- what stands untracked is ground for a callee -/
theorem ground_new (I : Inv X pins σ H s) : ∃ base : Heap, (∀ b o, X.base.get? b = some o → base.get? b = some o) ∧ (∀ b o, s.heap.get? b = some o → H b = none → b ∉ frs X.stack → base.get? b = some o) ∧ Env0 X.prog X.w X.K X.mg base X.A X.stack s H := by
  classical
  have e0 := I.env0
  let l := (List.range s.heap.objs.size).filter fun b => decide (H b ≠ none ∨ b ∈ frs X.stack)
  have inl : ∀ b, b ∈ l → H b ≠ none ∨ b ∈ frs X.stack := fun b h => by simpa using (List.mem_filter.mp h).2
  have sub : ∀ b o, (PySem.W.hideAll s.heap l).get? b = some o → s.heap.get? b = some o ∧ H b = none ∧ b ∉ frs X.stack := fun b o h => by
    have g := PySem.W.of_hideAll l h
    have nl : b ∉ l := fun z => by rw [PySem.W.hideAll_none l z] at h; cases h
    have n2 : ¬ (H b ≠ none ∨ b ∈ frs X.stack) := fun z => nl (List.mem_filter.mpr ⟨List.mem_range.mpr (Heap.lt_size g), by simpa using z⟩)
    refine ⟨g, ?_, fun z => n2 (.inr z)⟩
    cases q : H b with
    | none => rfl
    | some u => exact absurd (.inl (by rw [q]; simp)) n2
  have sup : ∀ b o, s.heap.get? b = some o → H b = none → b ∉ frs X.stack → (PySem.W.hideAll s.heap l).get? b = some o := fun b o g n f =>
    PySem.W.hideAll_get l g fun z => (inl b z).elim (fun y => y n) f
  have old : ∀ b o, X.base.get? b = some o → (PySem.W.hideAll s.heap l).get? b = some o := fun b o g => by
    obtain ⟨h1, h2⟩ := e0.bs b o g
    refine sup b o h1 h2 fun z => ?_
    have := (e0.funs.mem z).1
    rw [g] at this; cases this
  refine ⟨PySem.W.hideAll s.heap l, old, sup, e0.frames, mod_keeps e0.mod old, fun b o g => ⟨(sub b o g).1, (sub b o g).2.1⟩, Nat.le_of_eq (PySem.W.hideAll_size l _), ?_, e0.frf, e0.hok, e0.bare⟩
  refine funFrames_none e0.funs fun L hL => ?_
  cases q : (PySem.W.hideAll s.heap l).get? L with
  | none => rfl
  | some o => exact absurd hL (sub L o q).2.2
/-- the lambda's object is made; all stays but its maker's table -/
theorem lam_new {T : List (Addr × Str)} {c P : Addr} {params : Arguments} {body : Expr} {scope : Scope} {pos : Pos} {E : Value → Shared → Prop} {Q : Value → Shared → Prop} (I : Inv X pins σ H s) (TB : LamX.TabB X.base X.mg c P) (hcode : X.env.code = .ref c)
    (hm : (P, X.env.qual ++ "<lambda>") ∈ T) (hu : ∀ p ∈ T, p.1 = P → p.2 = X.env.qual ++ "<lambda>") (hT : LamX.Tabs T H) (hdef : defaultsOf params X.env = ([], [])) (hfree : ∀ y ∈ scope.names, y.2 = .free → ∃ c, X.env.cells.lookup y.1 = some c)
    (h : ∀ (f c' : Addr) (pm ctv : Value) (H1 : Hp) (s' : Shared), Inv X pins σ H1 s' → (∀ b o, b ≠ P → H b = some o → H1 b = some o) → LamX.Tabs T H1 →
      s'.heap.get? f = some (PySem.W.kla_obj "<lambda>" (X.env.qual ++ "<lambda>") params body scope (cloFrom X.env.cells scope.names []) pm c' ctv) → H1 f = none → f ≠ X.env.locals → f ∉ X.fs → f ∉ frs X.stack → H1 c' = some (LamX.CodeO c' (X.env.qual ++ "<lambda>")) → c' ≠ P →
      (∀ b, H b ≠ none → b ≠ c' ∨ H b = some (LamX.CodeO c' (X.env.qual ++ "<lambda>"))) → Q (.ref f) s') :
    wpAny (model X.prog X.w) X.A (eval (.Lambda params body scope pos) X.env) Q E s := by
  obtain ⟨ps, hP, ht, ha⟩ := hT _ hm
  refine PySem.W.kla_eval hdef ?_
  have bP : s.heap.BuiltinsAt X.mg P := TB.bm.keeps I.bk
  have hP' : s.heap.get? P = some { cls := .none, data := .fields ps } := I.hok P _ hP
  have far : ∀ f, s.heap.objs.size ≤ f → f ≠ X.env.locals ∧ f ∉ X.fs ∧ f ∉ frs X.stack := fun f hf => by
    have h1 : f ≠ X.env.locals := fun z => by
      have l1 := I.lt
      rw [← z] at l1
      exact Nat.lt_irrefl _ (Nat.lt_of_lt_of_le l1 hf)
    have h2 : f ∉ X.fs := fun z => I.nofs hf z
    refine ⟨h1, h2, fun z => ?_⟩
    rcases List.mem_cons.mp (I.stkSub _ z) with e | e
    · exact h1 e
    · exact h2 e
  have codeNe : ∀ {c' : Addr} (ps : Array Value), LamX.CodeO c' (X.env.qual ++ "<lambda>") ≠ .tbl ps := fun ps z => by
    unfold LamX.CodeO at z
    cases z
  cases hc : codeAmong pos ps.toList with
  | some cv =>
    obtain ⟨c', e, hco⟩ := ha pos cv hc
    subst e
    refine PySem.W.kla_makeFunctionHit (mg := X.mg) (c := c) (P := P) (ps := ps) (closure_ok hfree) I.ok.glob (I.mod.glob.keeps I.bk) hcode (TB.code.keeps I.bk) hP' ht hc bP ?_
    intro ctv h' tk hx hsz
    have I1 : Inv X pins σ H { s with heap := h'.push (PySem.W.kla_obj "<lambda>" (X.env.qual ++ "<lambda>") params body scope (cloFrom X.env.cells scope.names []) ((X.mg "__name__").getD .none) c' ctv), toks := tk } := I.kept fun b o e => Heap.get?_push_of_some _ (hx b o e)
    obtain ⟨f1, f2, f3⟩ := far _ hsz
    refine h h'.objs.size c' _ ctv H _ I1 (fun b o _ e => e) hT (Heap.get?_push_size _ rfl) (I.hok.fresh hsz) f1 f2 f3 hco (fun z => ?_) (fun b _ => ?_)
    · rw [z, hP] at hco
      exact codeNe ps (Option.some.inj hco).symm
    · by_cases z : b = c'
      · exact .inr (by rw [z]; exact hco)
      · exact .inl z
  | none =>
    refine PySem.W.kla_makeFunction (mg := X.mg) (c := c) (P := P) (ps := ps) (closure_ok hfree) I.ok.glob (I.mod.glob.keeps I.bk) hcode (TB.code.keeps I.bk) hP' ht hc TB.gP bP ?_
    intro c' ctv h' tk hx hge hlt hrec htb
    obtain ⟨c2, oc, vs, t, e2, hoc, hd, hv⟩ := hrec
    cases e2
    have hsz : s.heap.objs.size ≤ h'.objs.size := Nat.le_trans hge (Nat.le_of_lt hlt)
    have nC : H c' = none := I.hok.fresh hge
    have nPc : P ≠ c' := ne_of_none hP nC
    have I1 := LamX.inv_table (t' := tk) (more := #[rawInt pos.line, rawInt pos.col, .ref c']) (h' := h'.push (PySem.W.kla_obj "<lambda>" (X.env.qual ++ "<lambda>") params body scope (cloFrom X.env.cells scope.names []) ((X.mg "__name__").getD .none) c' ctv)) I hP
      (fun b o hb e => Heap.get?_push_of_some _ (hx b o hb e)) (Heap.get?_push_of_some _ htb) hge ⟨oc, vs, t, Heap.get?_push_of_some _ hoc, hd, hv⟩
    have stay : ∀ b o, b ≠ P → H b = some o → upd (upd H P (.tbl (ps ++ #[rawInt pos.line, rawInt pos.col, .ref c']))) c' (LamX.CodeO c' (X.env.qual ++ "<lambda>")) b = some o := fun b o hb e => by
      rw [upd_ne (ne_of_none e nC), upd_ne hb]; exact e
    have eL : (ps ++ #[rawInt pos.line, rawInt pos.col, .ref c']).toList = ps.toList ++ [rawInt pos.line, rawInt pos.col, .ref c'] := by simp
    obtain ⟨f1, f2, f3⟩ := far _ hsz
    have codeP : ∀ c0, H c0 = some (LamX.CodeO c0 (X.env.qual ++ "<lambda>")) → c0 ≠ P := fun c0 e z => by
      rw [z, hP] at e
      exact codeNe ps (Option.some.inj e).symm
    refine h h'.objs.size c' ((X.mg "__name__").getD .none) ctv _ _ I1 stay (fun p hp => ?_) (Heap.get?_push_size _ rfl) ?_ f1 f2 f3 upd_same nPc.symm (fun b hb => .inl fun z => hb (by rw [z]; exact nC))
    · by_cases hb : p.1 = P
      · rw [hu p hp hb, hb]
        refine ⟨_, by rw [upd_ne nPc, upd_same], by rw [eL]; exact PySem.TriplesOk_snoc _ _ _ _ ht, fun p' cv hcv => ?_⟩
        rw [eL] at hcv
        rcases LamX.among_app _ ht hcv with z | z
        · obtain ⟨c0, e1, e2⟩ := ha p' cv z
          exact ⟨c0, e1, stay _ _ (codeP c0 e2) e2⟩
        · exact ⟨c', z, upd_same⟩
      · obtain ⟨ps', a1, a2, a3⟩ := hT p hp
        refine ⟨ps', stay _ _ hb a1, a2, fun p' cv hcv => ?_⟩
        obtain ⟨c0, e1, e2⟩ := a3 p' cv hcv
        refine ⟨c0, e1, stay _ _ (fun z => ?_) e2⟩
        rw [z, hP] at e2
        unfold LamX.CodeO at e2
        cases e2
    · rw [upd_ne (Nat.ne_of_gt hlt), upd_ne (Nat.ne_of_gt (Nat.lt_of_lt_of_le (Heap.lt_size hP') hsz))]
      exact I.hok.fresh hsz
end
end DL

end

section -- DL19
set_option Elab.async false
set_option linter.all false
set_option maxRecDepth 100000
set_option maxHeartbeats 2000000
/-! DL19: the lambda's body over another ground; a def called with a lambda. -/
namespace DL
open PySem PySem.Spec L2
open PyProof.Rows (envOfC)

abbrev lamEnv (X : Cx) (scope : Scope) (L f c' : Addr) : Env := LamX.lamEnv X scope L f c'
def lamCxB (X : Cx) (base : Heap) (A : Around) (outer : List Env) (s : Shared) (H : Hp) (E : XK) (scope : Scope) (f c' : Addr) : Cx := { LamX.lamCx X A outer s H E scope f c' with base := base }
section
variable {X : Cx} {pins : List (Addr × Obj)} {σ : St} {H HZ : Hp} {s s1 : Shared} {base : Heap}
/-- the cells stand in the new ground -/
theorem cells_in (I : Inv X pins σ H s) (hfn : ∀ x, X.fn x = true) (sup : ∀ b o, s.heap.get? b = some o → H b = none → b ∉ frs X.stack → base.get? b = some o) {y : Str} {c : Addr} (e : X.env.cells.lookup y = some c) {v : Option Value} (z : s.heap.IsCell c v) : base.IsCell c v := by
  obtain ⟨o, ho, hd⟩ := z
  refine ⟨o, sup c o ho (I.freeC _ _ e) (fun hm => ?_), hd⟩
  rcases List.mem_cons.mp (I.stkSub _ hm) with q | q
  · exact I.cne _ _ e q
  · obtain ⟨_, o', e', _⟩ := I.ok.funs.mem q
    exact Nat.lt_irrefl _ (Nat.lt_of_lt_of_le (Heap.lt_size e') (I.ok.cab y c (hfn y) e))
theorem lam_enter {A : Around} {outer : List Env} {E : XK} {scope : Scope} {f c' : Addr} {h₁ : Heap} {tk : Nat} (I : Inv X pins σ H s) (L : LamX.LamS X.env.scope scope) (e0 : Env0 X.prog X.w X.K X.mg base A outer s1 HZ) (hd : A.handled = none)
    (hcell : ∀ (y : Str) (c : Addr) (v : Option Value), X.env.cells.lookup y = some c → s.heap.IsCell c v → base.IsCell c v) (hns : h₁.Ns s1.heap.objs.size fun y => ([] : List (Str × Value)).reverse.lookup y) (kp : ∀ b o, s1.heap.get? b = some o → h₁.get? b = some o) :
    Inv (lamCxB X base A outer s1 HZ E scope f c') [] σ HZ { s1 with heap := h₁, toks := tk } := by
  have has := L.has I.ok
  have own : ∀ {y c}, (cloFrom X.env.cells scope.names []).lookup y = some c → X.env.cells.lookup y = some c := fun {y c} e => by
    rcases cloFrom_mem (PySem.mem_of_lookup e) with z | ⟨h1, h2⟩
    · cases z
    · obtain ⟨c1, hc⟩ := has _ h1 rfl
      have hc : X.env.cells.lookup y = some c1 := hc
      rw [hc] at h2 ⊢
      exact congrArg some h2.symm
  have look : ∀ {y}, scope.names.lookup y = some .free → ∃ c, (cloFrom X.env.cells scope.names []).lookup y = some c := fun {y} hl =>
    mem_lookup (cloFrom_has (cells := X.env.cells) (acc := []) (PySem.mem_of_lookup hl))
  have bsOf : ∀ {c : Addr} {v : Option Value}, base.IsCell c v → h₁.IsCell c v := fun {c v} ⟨o, ho, q⟩ => ⟨o, kp _ _ (e0.bs _ _ ho).1, q⟩
  have cellK : ∀ {y : Str} {c : Addr} {v : Option Value}, X.env.cells.lookup y = some c → s.heap.IsCell c v → h₁.IsCell c v := fun {y c v} e z => bsOf (hcell y c v e z)
  have noA : ∀ b : Addr, b ∉ (lamCxB X base A outer s1 HZ E scope f c').ex := fun b z => absurd (show b ∈ ([] : List Addr) from z) (by simp)
  have okk : (lamCxB X base A outer s1 HZ E scope f c').Ok := by
    refine ⟨e0.mod, L.kind, rfl, rfl, Nat.le_refl _, fun y z c e1 e2 => I.ok.inj y z c (own e1) (own e2), fun y hy => ?_, fun y c z _ => ?_, fun _ => hd, Around.frames_deeper e0.frames, .inr ⟨rfl, rfl⟩, fun b z => absurd z (noA b), e0.bs, e0.bsz, fun b _ _ => noA b, fun b z => absurd z (noA b), e0.funs, e0.frf⟩
    · have hy : scope.names.lookup y = some .cell ∨ scope.names.lookup y = some .free := hy
      rcases hy with hy | hy
      · exact absurd rfl (L.own _ (PySem.mem_of_lookup hy)).2
      · exact look hy
    · have z : false = true := z
      cases z
  refine ⟨okk, rfl, e0.bare, Un.kept kp, ⟨_, hns, fun i y v e1 e2 e3 => ?_⟩, fun y c e => ?_, e0.hok.fresh (Nat.le_refl _), fun y c e => ?_, fun q hq => absurd (show q ∈ ([] : List (Addr × Obj)) ++ [] from hq) (by simp), e0.hok.kept kp, I.len⟩
  · have e3 : Vis scope y := e3
    rcases e3 with k | k | k
    · exact absurd rfl (L.own _ (PySem.mem_of_lookup k)).1
    · exact absurd rfl (L.own _ (PySem.mem_of_lookup k)).2
    · obtain ⟨m, hn, hl⟩ := I.loc
      have hvis : Vis X.env.scope y := (L.free _ (PySem.mem_of_lookup k) rfl).elim (fun k => .inr (.inl k)) (fun k => .inr (.inr k))
      obtain ⟨u, r, q⟩ := hl i y v e1 e2 hvis
      obtain ⟨c2, h2⟩ := look k
      refine ⟨u, r, .inr ⟨.inr k, c2, h2, ?_⟩⟩
      rcases q with ⟨k', _⟩ | ⟨_, c3, e', z⟩
      · have k' : X.env.scope.names.lookup y = some .local := k'
        rcases L.free _ (PySem.mem_of_lookup k) rfl with k2 | k2
        · rw [show X.env.scope.names.lookup y = some .cell from k2] at k'; cases k'
        · rw [show X.env.scope.names.lookup y = some .free from k2] at k'; cases k'
      · have e2 := own h2
        rw [e2] at e'
        cases e'
        exact cellK e2 z
  · obtain ⟨v, z⟩ := I.cell y c (own e)
    exact ⟨v, cellK (own e) z⟩
  · obtain ⟨v, z⟩ := I.cell y c (own e)
    obtain ⟨o, ho, _⟩ := hcell y c v (own e) z
    exact (e0.bs _ _ ho).2
end
/-! ### what is captured -/
/-- the slots that a lambda reads: data that is shared -/
def capE (n : Nat) (cap : List Nat) (e : List Sl) : List Sl := (List.range n).map fun i => if i ∈ cap then (match e[i]? with
  | some (.sh d) => .sh d
  | _ => .no) else .no
def capV (cap : List Nat) (σ : St) : List V := cap.map fun i => match σ[i]? with
  | some (some v) => v
  | _ => .non
def capD (cap : List Nat) (e : List Sl) : Option (List D) := match cap with
  | [] => some []
  | i :: r => match e[i]?, capD r e with
    | some (.sh d), some ds => some (d :: ds)
    | _, _ => none
/-- the lambda's end, as a def's -/
def lamEnd : Option RE → Option Fl
  | some (.val (.sh d) s) => some (.rt (.sh d) s)
  | some (.val (.own d) s) => some (.rt (.own d) s)
  | some (.exc x w) => some (.exc x w)
  | _ => none
def lamF (n : Nat) (cap : List Nat) (tb : TEf) (e : List Sl) : W → Option Fl := fun w => lamEnd (tb ⟨w, capE n cap e⟩)
theorem capE_get {n : Nat} {cap : List Nat} {e : List Sl} {i : Nat} {s : Sl} (h : (capE n cap e)[i]? = some s) : s = .no ∨ ∃ d, s = .sh d ∧ i ∈ cap ∧ e[i]? = some (.sh d) := by
  unfold capE at h
  rw [List.getElem?_map] at h
  cases q : (List.range n)[i]? with
  | none => rw [q] at h; cases h
  | some k =>
    have hk : i < n := by
      rw [List.getElem?_eq_some_iff] at q
      obtain ⟨h1, _⟩ := q
      simpa using h1
    have ek : k = i := by
      rw [List.getElem?_range hk] at q
      exact (Option.some.inj q).symm
    subst ek
    rw [q] at h
    simp only [Option.map_some, Option.some.injEq] at h
    by_cases hc : k ∈ cap
    · rw [if_pos hc] at h
      split at h
      · rename_i d hd
        exact .inr ⟨d, h.symm, hc, hd⟩
      · exact .inl h.symm
    · rw [if_neg hc] at h
      exact .inl h.symm
theorem capD_rep {K : PySem.W.Frag} {Av : AS} {H : Hp} {σ : St} {e : List Sl} (rep : ∀ (i : Nat) d, e[i]? = some (.sh d) → ∃ v, σ[i]? = some (some v) ∧ Rep K Av H v d) : ∀ {cap : List Nat} {ds : List D}, capD cap e = some ds → RepAll K Av H (capV cap σ) ds
  | [], ds, h => by
    unfold capD at h
    cases h
    exact .nil
  | i :: r, ds, h => by
    unfold capD at h
    split at h
    · rename_i d ds' h1 h2
      cases h
      obtain ⟨v, e1, rv⟩ := rep i d h1
      have ev : capV (i :: r) σ = v :: capV r σ := by
        show (match σ[i]? with
          | some (some v) => v
          | _ => .non) :: capV r σ = _
        rw [e1]
      rw [ev]
      exact .cons rv (capD_rep rep h2)
    · cases h
theorem capD_at {e : List Sl} {σ : St} {K : PySem.W.Frag} {Av : AS} {H : Hp} : ∀ {cap : List Nat} {ds : List D}, capD cap e = some ds → RepAll K Av H (capV cap σ) ds → ∀ (i : Nat) d, i ∈ cap → e[i]? = some (.sh d) → ∀ v, σ[i]? = some (some v) → Rep K Av H v d
  | [], _, _, _, i, d, hi, _, _, _ => absurd hi (by simp)
  | j :: r, ds, h, rp, i, d, hi, he, v, hv => by
    unfold capD at h
    split at h
    · rename_i d' ds' h1 h2
      cases h
      have rp : RepAll K Av H ((match σ[j]? with
          | some (some v) => v
          | _ => .non) :: capV r σ) (d' :: ds') := rp
      cases rp with
      | cons r1 r2 =>
        by_cases hij : i = j
        · subst hij
          rw [he] at h1
          cases h1
          rw [hv] at r1
          exact r1
        · exact capD_at h2 r2 i d (by
            rcases List.mem_cons.mp hi with z | z
            · exact absurd z hij
            · exact z) he v hv
    · cases h
section
variable {X : Cx} {pins : List (Addr × Obj)} {σ : St} {H : Hp} {s : Shared} {base : Heap}
/-- a made lambda is such a function -/
theorem thk_of {f c' : Addr} {pm ctv : Value} {params : Arguments} {body : Expr} {scope : Scope} {k : Nat} {cap : List Nat} {tb : TEf} {e : List Sl} {ds : List D} (I : Inv X pins σ H s) (L : LamX.LamS X.env.scope scope) (hfn : ∀ x, X.fn x = true)
    (sup : ∀ b o, s.heap.get? b = some o → H b = none → b ∉ frs X.stack → base.get? b = some o)
    (hf : s.heap.get? f = some (PySem.W.kla_obj "<lambda>" (X.env.qual ++ "<lambda>") params body scope (cloFrom X.env.cells scope.names []) pm c' ctv)) (hfn2 : H f = none) (hfr : f ∉ frs X.stack)
    (hbind : bindArgs (PySem.W.kla_fn "<lambda>" (X.env.qual ++ "<lambda>") params body scope (cloFrom X.env.cells scope.names []) pm (.ref c') ctv) ⟨[], []⟩ = pure [])
    (he : e.length = X.N.length) (hσ : ∀ (i : Nat) d, e[i]? = some (.sh d) → ∃ v, σ[i]? = some (some v)) (hcap : capD cap e = some ds)
    (hbody : ∀ (A : Around) (outer : List Env) (s : Shared) (H : Hp) (E : XK), Rm k (A.deeper (lamEnv X scope s.heap.objs.size f c')) → DE (lamCxB X base A outer s H E scope f c') E body tb) :
    Thk X.prog X.w X.K X.mg base (k + 1) f c' (X.env.qual ++ "<lambda>") (capV cap σ) ds (lamF X.N.length cap tb e) := by
  have fb := sup f _ hf hfn2 hfr
  refine ⟨⟨_, _, _, _, fb⟩, ?_⟩
  intro A fs s1 HZ Q E Av dr w0 hr e0 hA hw hc nc rp fe
  obtain ⟨⟨oc, vs, t, hoc, hdc, hvc⟩, _, _⟩ := e0.hok c' _ hc
  have of1 := (e0.bs f _ fb).1
  have lim : s1.heap.NoLimit := e0.mod.nolimit.keeps fun b o z => (e0.bs b o z).1
  refine PySem.W.kla_callFunE hr.rm.depth of1 rfl L.co L.gen rfl ⟨c', oc, vs, t, rfl, hoc, hdc, hvc⟩ ?_
  rw [hbind]
  refine wpAny_pure (wpAny_newFunctionEnv (fun y hy => (L.own y hy).2) (fun y hy => absurd hy (by simp)) (fun h₁ hns hsb => ⟨lim.fresh _ hsb, ?_⟩) L.kind)
  show codeAny _ _ (.expr body (lamEnv X scope s1.heap.objs.size f c')) _ _
  have kp : ∀ b o, s1.heap.get? b = some o → h₁.get? b = some o := fun b o z => hsb.extBut b o (Nat.ne_of_lt (Heap.lt_size z)) (Heap.get?_push_of_some _ z)
  have J : Inv (lamCxB X base A fs s1 HZ E scope f c') [] σ HZ { s1 with heap := h₁, toks := s1.toks + ([] : List (Str × Value)).length } := lam_enter I L e0 hr.rm.hd (fun y c v e z => cells_in I hfn sup e z) hns kp
  have SR : SRep X.K ⟨Av, HZ, dr⟩ [] σ (capE X.N.length cap e) w0 [] none HZ := by
    have lt : ∀ b, AvA ⟨Av, HZ, dr⟩ σ (capE X.N.length cap e) none b → Av b ∨ DrS dr b := fun b z => by
      rcases z with z | z | ⟨i, d, h, _⟩ | z
      · exact .inl z
      · exact .inr z
      · rcases h with h | h <;> rcases capE_get h with q | ⟨d, q, _⟩ <;> cases q
      · cases z
    refine ⟨?_, Ch.refl, hA, fun b h => ?_, hw, fun i sl ov h1 h2 => ?_, fun i j d d' a h1 _ _ _ => ?_, fun p hp => absurd hp (by simp), fun p hp => absurd hp (by simp), fun a h => by cases h⟩
    · rw [capE, List.length_map, List.length_range, I.len]
    · obtain ⟨r, hr, q⟩ := h
      obtain ⟨h1, h2, h3, _, h5⟩ := hw.2 r hr
      rcases q with q | q | q | ⟨p, hp, q⟩ <;> subst q
      · show HZ r.d ≠ none; rw [h1]; simp
      · show HZ r.l ≠ none; rw [h2]; simp
      · show HZ r.c ≠ none; rw [h3]; simp
      · obtain ⟨ps, h6, _⟩ := h5 p hp
        show HZ p.1 ≠ none; rw [h6]; simp
    · rcases capE_get h1 with q | ⟨d, q, hi, hd⟩
      · subst q; exact True.intro
      · subst q
        obtain ⟨v, hv⟩ := hσ i d hd
        rw [hv] at h2
        cases h2
        exact ⟨v, rfl, (capD_at hcap rp i d hi hd v hv).av lt⟩
    · rcases h1 with h | h <;> rcases capE_get h with q | ⟨d, q, _⟩ <;> cases q
  have fin : lift X.K ⟨Av, HZ, dr⟩ [] E tb σ HZ Q := by
    refine ⟨_, w0, [], SR, ?_⟩
    unfold lamF at fe
    match ht : tb ⟨w0, capE X.N.length cap e⟩ with
    | none => rw [ht] at fe; exact fe.elim
    | some (.exc x w') => rw [ht] at fe; exact fun cls dd H' ⟨c, wr, xr⟩ => fe cls dd H' c wr xr
    | some (.val .no s') => rw [ht] at fe; exact fe.elim
    | some (.val (.lck _) s') => rw [ht] at fe; exact fe.elim
    | some (.val .dr s') => rw [ht] at fe; exact fe.elim
    | some (.val (.sh d) s') =>
      rw [ht] at fe
      intro v x H' R' r'
      exact fe v H' R'.ext R'.wr (r'.2.av fun b z => z.elim (fun z => .inl z) fun z => .inr (.inl z))
    | some (.val (.own d) s') =>
      rw [ht] at fe
      intro v x H' R' r'
      obtain ⟨a, e1, e2, o⟩ := r'
      subst e2
      refine fe a H' R'.ext R'.wr (R'.fr a e1).1 (o.av fun b z => ?_)
      rcases z with z | z | z
      · exact .inl z
      · exact .inr (.inl z)
      · exact .inr (.inr (.inr (by rw [z])))
  refine PySem.W.kla_codeExpr (wpAny_mono (((hbody A fs s1 HZ E (hr.deeper _)).run ⟨Av, HZ, dr⟩ []).run [] _ σ HZ Q J fin) (fun v s' hq => ?_) fun e s' hq => hq)
  obtain ⟨v', H', J', rv, q⟩ := hq
  exact ⟨v', H', J'.os, J'.bare, J'.base, J'.hok, rv, q⟩
end
end DL

end

section -- DL20
set_option Elab.async false
set_option linter.all false
set_option maxRecDepth 100000
set_option maxHeartbeats 2000000
/-! DL20: f(lambda: .., e, ..), f a def of the module. -/
namespace DL
open PySem PySem.Spec L2
open PyProof.Rows (envOfC)

/-- a def that gets a function first: what it does, by what the function does -/
abbrev FT := (W → Option Fl) → FN
open Classical in
/-- as a def of all its arguments, the function told -/
noncomputable def FT.at (Fc : FT) (d : D) (F : W → Option Fl) : FN := fun w rs => match rs with
  | r :: rs => if r = .sh d then Fc F w rs else none
  | [] => none
open Classical in
noncomputable def dCallLam (T0 : List (Addr × Str)) (n : Nat) (cap : List Nat) (tb : TEf) (Fc : FT) (u : TAf) : TEf := fun s => if s.w.T = T0 ∧ (capD cap s.e).isSome = true then aE (u s) fun rs s' => callEnd s'.e (Fc (lamF n cap tb s.e) s'.w rs) else none
section
variable {X : Cx} {E : XK}
theorem de_callLam {T0 : List (Addr × Str)} {cap : List Nat} {tb : TEf} {Fc : FT} {u : TAf} {x : Str} {fg c P : Addr} {fd : FuncData} {ps : List Str} {m k kt : Nat} {params : Arguments} {body : Expr} {scope : Scope} {lpos p pos : Pos} {es : List Expr}
    (hcal : ∀ (base : Heap) (f c' : Addr) (q : Str) (vs : List V) (ds : List D) (F : W → Option Fl), (∀ b o, X.base.get? b = some o → base.get? b = some o) → Thk X.prog X.w X.K X.mg base (kt + 1) f c' q vs ds F → FnG X.prog X.w X.K X.mg base k fg fd ps (spF X.K (m + 1) (Fc.at (.fn f c' q vs ds) F)))
    (hr : Rm k X.A) (hfn : ∀ x, X.fn x = true) (hg : Gl X x) (hm : X.mg x = some (.ref fg)) (hk : PySem.W.keepIn X.K (.ref fg) = true) (hb : Binds X.K fd ps []) (tk : L2.Takes X fun cls d _ H => E cls d H) (ha : DA X E es u) (hn : ALen u m)
    (TB : LamX.TabB X.base X.mg c P) (hcode : X.env.code = .ref c) (hmT : (P, X.env.qual ++ "<lambda>") ∈ T0) (hu : ∀ p ∈ T0, p.1 = P → p.2 = X.env.qual ++ "<lambda>") (L : LamX.LamS X.env.scope scope) (hdef : defaultsOf params X.env = ([], []))
    (hbind : ∀ (q : Str) (cl : List (Str × Addr)) (pm cv ctv : Value), bindArgs (PySem.W.kla_fn "<lambda>" q params body scope cl pm cv ctv) ⟨[], []⟩ = pure [])
    (hbody : ∀ (base : Heap) (A : Around) (outer : List Env) (s : Shared) (H : Hp) (E : XK) (f c' : Addr), (∀ b o, X.base.get? b = some o → base.get? b = some o) → Rm kt (A.deeper (lamEnv X scope s.heap.objs.size f c')) → DE (lamCxB X base A outer s H E scope f c') E body tb)
    (hdb : (x == ("__debug__" : Str)) = false := by decide) (hes : starEach (.Lambda params body scope lpos :: es) X.env = (false, eval (.Lambda params body scope lpos) X.env) :: starEach es X.env := by rfl)
    (hpl : (backTo pos (starEach es X.env)).any (·.1) = false := by rfl) :
    DE X E (.Call (.Name x p) (.Lambda params body scope lpos :: es) [] pos) (dCallLam T0 X.N.length cap tb Fc u) := ⟨fun G bs => by
  refine ⟨fun pins s σ H Q I h => ?_⟩
  obtain ⟨e, w, pd, R, h⟩ := h
  unfold dCallLam at h
  by_cases hc : w.T = T0 ∧ (capD cap e).isSome = true
  · rw [if_pos hc] at h
    obtain ⟨hT0, hcap⟩ := hc
    obtain ⟨ds, hds⟩ := Option.isSome_iff_exists.mp hcap
    obtain ⟨r, hdr, hrT⟩ := R.wr.1 (by rw [hT0]; intro z; rw [z] at hmT; cases hmT)
    obtain ⟨w1, w2, w3, w4, w5⟩ := R.wr.2 r hdr
    have hrT : r.T = T0 := hrT.trans hT0
    rw [hrT] at w5
    have dP : DrS G.dr P := ⟨r, hdr, .inr (.inr (.inr ⟨_, by rw [hrT]; exact hmT, rfl⟩))⟩
    obtain ⟨ps0, hP, _⟩ := w5 _ hmT
    have neP : ∀ b o, H b = some o → (∀ ps, o ≠ .tbl ps) → b ≠ P := fun b o e1 e2 z => by
      rw [z, hP] at e1
      exact e2 _ (Option.some.inj e1).symm
    refine PySem.wpAny_Call_Name_kw (ld_glob I hg hm ?_ hdb)
    refine PySem.W.callWith_K (h₀ := X.base) I.ok.mod.kin hk ?_ hes hpl
    rw [hes]
    show wpAny _ _ (spliced ((false, eval (.Lambda params body scope lpos) X.env) :: backTo pos (starEach es X.env))) _ _ s
    refine Calls.spliced_cons (lam_new I TB hcode hmT hu w5 hdef (L.has I.ok) ?_)
    intro f c' pm ctv H1 s1 I1 stay T1 hf hfH hfL hfF hfS hco hcP _
    have I1p : Inv X ((f, PySem.W.kla_obj "<lambda>" (X.env.qual ++ "<lambda>") params body scope (cloFrom X.env.cells scope.names []) pm c' ctv) :: pins) σ H1 s1 := I1.pins_of fun q hq => by
      rcases List.mem_cons.mp hq with z | z
      · subst z
        exact ⟨hf, hfH, hfL, hfF, fun v z => by cases z⟩
      · exact I1.pin q (List.mem_append_right _ z)
    have R1 : SRep X.K G bs σ e w pd none H1 := R.grow (fun b o n e1 => stay b o (fun z => n (by rw [z]; exact dP)) e1) ⟨R.wr.1, fun r' hr' => by
      rw [hdr] at hr'
      cases hr'
      exact ⟨stay _ _ (neP _ _ w1 fun ps z => by cases z) w1, stay _ _ (neP _ _ w2 fun ps z => by cases z) w2, stay _ _ (neP _ _ w3 fun ps z => by cases z) w3, w4, by rw [hrT]; exact T1⟩⟩
    have capR : RepAll X.K (AvP G σ e none) H1 (capV cap σ) ds := capD_rep (fun i d hi => by
      obtain ⟨v, e1, r⟩ := R1.getSh hi
      exact ⟨v, e1, r.2.av fun b z => z⟩) hds
    have dfn : Rep X.K (AvP G σ e none) H1 (.ref f) (.fn f c' (X.env.qual ++ "<lambda>") (capV cap σ) ds) := .fn hco (fun z => (R1.solid z).2 _ hco) capR
    have R1' := R1.push (v := .ref f) (x := none) (r := .sh (.fn f c' (X.env.qual ++ "<lambda>") (capV cap σ) ds)) ⟨rfl, dfn⟩
    have args := (ha.run G bs).run pos ((f, PySem.W.kla_obj "<lambda>" (X.env.qual ++ "<lambda>") params body scope (cloFrom X.env.cells scope.names []) pm c' ctv) :: pins) s1 σ H1
      (fun vs H2 => ∃ rs s2, u ⟨w, e⟩ = some (.vals rs s2) ∧ vs.length = rs.length ∧ SRep X.K G bs σ s2.e s2.w (vs.zip rs ++ ((V.ref f, .sh (.fn f c' (X.env.qual ++ "<lambda>") (capV cap σ) ds)) :: pd)) none H2) I1p ⟨e, w, _, R1', by
        cases hu2 : u ⟨w, e⟩ with
        | none => rw [hu2] at h; exact h.elim
        | some ra =>
          cases ra with
          | exc x' w' => rw [hu2] at h; exact h
          | vals rs s2 => exact fun vs H2 hl R2 => ⟨rs, s2, rfl, hl, R2⟩⟩
    refine thn args ?_
    rintro us s2 ⟨vs, H2, I2, rv, rs, st, hu2, hl, R2⟩
    rw [hu2] at h
    simp only [aE_val] at h
    refine ⟨I2.kIn, ?_⟩
    show wpAny _ _ (call (.ref fg) (.ref f :: us)) _ _ _
    obtain ⟨pf1, pf2, _⟩ := I2.pin _ (List.mem_append_right _ List.mem_cons_self)
    obtain ⟨base, old, sup, e0⟩ := ground_new I2
    have lenE : e.length = X.N.length := R.len.trans I.len
    have th := thk_of (tb := tb) (cap := cap) (ds := ds) (e := e) I2 L hfn sup pf1 pf2 hfS (hbind _ _ _ _ _) lenE (fun i d hi => by
      obtain ⟨v, e1, _⟩ := R1.getSh hi
      exact ⟨v, e1⟩) hds (fun A outer s H E hr2 => hbody base A outer s H E f c' old hr2)
    have F := hcal base f c' _ _ _ _ old th
    have R2' := R2.rest
    have pf : Rep X.K (AvP G σ st.e none) H2 (.ref f) (.fn f c' (X.env.qual ++ "<lambda>") (capV cap σ) ds) := R2'.pend (.ref f, .sh (.fn f c' (X.env.qual ++ "<lambda>") (capV cap σ) ds)) List.mem_cons_self
    have lt : ∀ b, (G.A b ∨ Own1 σ st.e b) ∨ DrS G.dr b → AvP G σ st.e none b := fun b z => by
      rcases z with (z | z) | z
      · exact .inl z
      · exact .inr (.inr (.inl z))
      · exact .inr (.inl z)
    have hlen : (V.ref f :: vs).length = m + 1 := by rw [List.length_cons, hl, hn _ _ _ hu2]
    have sp : spF X.K (m + 1) (Fc.at (.fn f c' (X.env.qual ++ "<lambda>") (capV cap σ) ds) (lamF X.N.length cap tb e)) (.ref f :: vs) H2 Q E := by
      refine ⟨hlen, fun b => G.A b ∨ Own1 σ st.e b, G.dr, st.w, .sh (.fn f c' (X.env.qual ++ "<lambda>") (capV cap σ) ds) :: rs, fun b z => R2'.solid (lt b (.inl z)), R2'.wr, ⟨pf.av lt, argsRep_of (G := G) lt rfl hl fun p hp => R2.pend p (List.mem_append_left _ hp)⟩, ?_⟩
      unfold FT.at
      simp only [if_true]
      exact fend_of (R2'.pds fun _ hp => List.mem_cons_of_mem _ hp) h
    have size : (Value.ref f :: us).length = ps.length := by
      rw [← F.len _ _ _ _ sp, List.length_cons, List.length_cons, rv.length]
    have bt := hb s2 (Value.ref f :: us) I2.kIn (by rw [List.append_nil]; exact size)
    rw [List.append_nil] at bt
    have I3 : Inv X pins σ H2 s2 := I2.pins_of fun q hq => I2.pin q (List.mem_append_right _ (List.mem_cons_of_mem _ hq))
    refine wpAny_call (codeAny_mono (F.run X.A X.stack s2 H2 ⟨Value.ref f :: us, []⟩ (Value.ref f :: us) (.ref f :: vs) Q E hr e0 bt (.cons rfl rv) sp) ?_)
    intro r s' z
    match r, z with
    | .error e, z => exact passAt (W := fun cls d _ H => E cls d H) tk σ pins H2 s2 e s' I3 z
    | .ok (.ret u), z => exact I3.after z
    | .ok .next, z => exact z.elim
    | .ok .brk, z => exact z.elim
    | .ok .cont, z => exact z.elim
  · rw [if_neg hc] at h; exact h.elim⟩
end
end DL

end

section -- DL21
set_option Elab.async false
set_option linter.all false
set_option maxRecDepth 100000
set_option maxHeartbeats 2000000
/-! DL21: constants of the module, -e, f(k=e), promises compared. -/
namespace DL
open PySem PySem.Spec L2
open PyProof.Rows (envOfC)
section
variable {X : Cx} {E : XK}
theorem de_gstr {x z : Str} {pos : Pos} (hg : Gl X x) (hm : ∃ t, X.mg x = some (.str z t)) (hd : (x == ("__debug__" : Str)) = false := by decide) : DE X E (.Name x pos) (dC (.str z)) := by
  obtain ⟨t, h⟩ := hm
  exact de_glob (v := .str z) hg h ⟨t, rfl⟩ (fun _ _ => .str z) hd
theorem de_gint {x : Str} {i : Int} {pos : Pos} (hg : Gl X x) (hm : ∃ t, X.mg x = some (.int i t)) (hd : (x == ("__debug__" : Str)) = false := by decide) : DE X E (.Name x pos) (dC (.int i)) := by
  obtain ⟨t, h⟩ := hm
  exact de_glob (v := .int i) hg h ⟨t, rfl⟩ (fun _ _ => .int i) hd
@[simp] def dNeg (t : TEf) : TEf := fun s => eB (t s) fun x s => match x with
  | .sh (.int i) => some (.val (.sh (.int (-i))) s)
  | _ => none
theorem de_neg {a : Expr} {t : TEf} {pos : Pos} (ha : DE X E a t) : DE X E (.UnaryOp .USub a pos) (dNeg t) :=
  ⟨fun G bs => (pe_un un_neg (ha.run G bs)).imp fun σ H Q ⟨e, w, pd, R, h⟩ => ⟨e, w, pd, R, h.first fun x s h v1 x1 H1 R1 r1 => by
    cases hp : partI x with
    | none =>
      refine False.elim ?_
      unfold partI at hp
      split at hp
      · cases hp
      · rename_i hne
        simp only at h
        exact h
    | some i =>
      have ex := partI_some hp
      subst ex
      have ex1 : x1 = none := r1.1
      subst ex1
      exact ⟨i, r1.2.int_inv, h _ none H1 R1 ⟨rfl, .int _⟩⟩⟩⟩
/-- f(k=e) -/
theorem de_callKw {x kn : Str} {p pos kpos : Pos} {e : Expr} {t : TEf} {Fn : FN} {k : Nat} {f : Addr} {fd : FuncData} (F : FnG X.prog X.w X.K X.mg X.base k f fd [kn] (spF X.K 1 Fn)) (hr : Rm k X.A) (hg : Gl X x) (hm : X.mg x = some (.ref f)) (hk : PySem.W.keepIn X.K (.ref f) = true)
    (hb : ∀ (s : Shared) (u : Value), X.K.In s.heap → BindsTo s fd ⟨[], [(kn, u)]⟩ [(kn, u)]) (tk : L2.Takes X fun cls d _ H => E cls d H) (he : DE X E e t) (hdb : (x == ("__debug__" : Str)) = false := by decide)
    (hpl : ((backTo pos (starEach [] X.env)).any (·.1) || (backToKw pos (keywordEach [⟨some kn, e, kpos⟩] X.env)).any (·.1.isNone)) = false := by rfl) (hall : (backToKw pos (keywordEach [⟨some kn, e, kpos⟩] X.env)).all (·.1.isSome) = true := by rfl)
    (hks : (backToKw pos (keywordEach [⟨some kn, e, kpos⟩] X.env)).filterMap (·.1) = [kn] := by rfl) : DE X E (.Call (.Name x p) [] [⟨some kn, e, kpos⟩] pos) (dCall Fn (dCons t dNil)) := ⟨fun G bs => by
  refine ⟨fun pins s σ H Q I h => ?_⟩
  have h2 := lift_call (X := X) (E := E) (n := 1) (F := Fn) (u := dCons t dNil) (fun s rs s' z => (ALen.nil.cons) s rs s' z) h
  refine PySem.wpAny_Call_Name_kw (ld_glob I hg hm ?_ hdb)
  refine PySem.W.callWith_KW0 (h₀ := X.base) I.ok.mod.kin hk hall ?_ hpl
  have kw := (pk_cons (nm := some kn) (kpos := kpos) (he.run G bs) pk_nil).run pos pins s σ H (fun vs H1 => spF X.K 1 Fn vs H1 Q E) I (by
    obtain ⟨e0, w, pd, R, q⟩ := h2
    refine ⟨e0, w, pd, R, LA.first (k := fun x s => aA (dNil s) fun xs s => some (.vals (x.weak :: xs) s)) q fun x s q v x1 H1 R1 r1 => ?_⟩
    exact q [v] H1 rfl (R1.push r1))
  refine thn kw ?_
  rintro us s1 ⟨vs, H1, I1, rv, q⟩
  refine ⟨I1.kIn, ?_⟩
  rw [hks]
  have hl : vs.length = 1 := q.1
  match vs, us, rv, hl with
  | [v], [u], rv, _ =>
    show wpAny _ _ (call (.ref f) [] [(kn, u)]) _ _ _
    refine wpAny_call (codeAny_mono (F.run X.A X.stack s1 H1 ⟨[], [(kn, u)]⟩ [u] [v] Q E hr I1.env0 (hb s1 u I1.kIn) rv q) ?_)
    intro r s' z
    match r, z with
    | .error e, z => exact passAt (W := fun cls d _ H => E cls d H) tk σ pins H1 s1 e s' I1 z
    | .ok (.ret u), z => exact I1.after z
    | .ok .next, z => exact z.elim
    | .ok .brk, z => exact z.elim
    | .ok .cont, z => exact z.elim
  | [v], [], rv, _ => cases rv
  | [v], _ :: _ :: _, rv, _ =>
    cases rv with
    | cons _ t => cases t⟩
end
/-! ### one promise within another -/
/-- what F answers F' answers too (the slots aside) -/
def FLe (F F' : FN) : Prop := ∀ w rs, match F w rs with
  | some (.rt r s) => ∃ s', F' w rs = some (.rt r s') ∧ s'.w = s.w
  | some (.exc x w') => F' w rs = some (.exc x w')
  | _ => True
theorem spF_le {K : PySem.W.Frag} {n : Nat} {F F' : FN} (h : FLe F F') : ∀ vs H Q E, spF K n F vs H Q E → spF K n F' vs H Q E := by
  rintro vs H Q E ⟨hl, A, dr, w, rs, hA, hw, ha, fe⟩
  refine ⟨hl, A, dr, w, rs, hA, hw, ha, ?_⟩
  have := h w rs
  match hf : F w rs with
  | none => rw [hf] at fe; exact fe.elim
  | some (.nx s) => rw [hf] at fe; exact fe.elim
  | some (.bk s) => rw [hf] at fe; exact fe.elim
  | some (.ct s) => rw [hf] at fe; exact fe.elim
  | some (.exc x w') =>
    rw [hf] at this fe
    have this : F' w rs = some (.exc x w') := this
    rw [this]
    exact fe
  | some (.rt r s) =>
    rw [hf] at this fe
    obtain ⟨s', e1, e2⟩ : ∃ s', F' w rs = some (.rt r s') ∧ s'.w = s.w := this
    rw [e1]
    cases r with
    | sh d => intro v H' c wr rp; exact fe v H' c (by rw [← e2]; exact wr) rp
    | own d => intro a H' c wr na o; exact fe a H' c (by rw [← e2]; exact wr) na o
    | no => exact fe.elim
    | lck d => exact fe.elim
    | dr => exact fe.elim
end DL

end

section -- DL22
set_option Elab.async false
set_option linter.all false
set_option maxRecDepth 100000
set_option maxHeartbeats 2000000
/-! DL22: list(text). -/
namespace DL
open PySem PySem.Spec L2
section
variable {X : Cx}
def signsV (z : Str) : List V := z.cps.toList.map fun c => V.str ⟨#[c]⟩
def rListS : List V → Hp → VK → Prop := fun xs H Q => ∃ z, xs = [.str z] ∧ z.cps.size ≤ sizeLine ∧ ∀ l, H l = none → Q (.ref l) (upd H l (.lst (signsV z)))
theorem vals_by : ∀ {xs : List V} {us : List Value}, xs.length = us.length → (∀ (i : Nat) x u, xs[i]? = some x → us[i]? = some u → RelV x u) → Vals xs us
  | [], [], _, _ => .nil
  | x :: xs, u :: us, hl, h => .cons (h 0 x u rfl rfl) (vals_by (by simpa using hl) fun i y w h1 h2 => h (i + 1) y w (by simpa using h1) (by simpa using h2))
  | [], _ :: _, hl, _ => by simp at hl
  | _ :: _, [], hl, _ => by simp at hl
theorem call_listS (hc : X.calm = true) : CallR X (.type "list") rListS := by
  intro pins s σ H xs us Q I r ⟨z, e, hz, q⟩
  subst e
  obtain ⟨u, e, t, eu⟩ := vals1 r
  subst e
  subst eu
  refine call_list_str (I.ok.hd hc) z t (fun h' tk acc' c' k e it => ?_) hz
  obtain ⟨n1, n2⟩ := it
  have len : (signsV z).length = acc'.toList.length := by
    unfold signsV
    rw [List.length_map, Array.length_toList, Array.length_toList, n1]
  have rv : Vals (signsV z) acc'.toList := vals_by len fun i x u h1 h2 => by
    obtain ⟨c, t2, e1, e2⟩ := n2 i u (by simpa using h2)
    subst e2
    unfold signsV at h1
    rw [List.getElem?_map, Array.getElem?_toList, e1] at h1
    cases h1
    exact ⟨t2, rfl⟩
  refine ⟨.ref _, _, I.laid (t' := tk) (o := .lst (signsV z)) k (Nat.le_refl _) (show ObjOk X.prog X.w _ h' _ (.lst (signsV z)) from ⟨?_, acc'.toList, c', rv, ?_⟩), rfl, q _ (I.hok.fresh (Nat.le_refl _))⟩
  · unfold signsV
    rw [List.length_map, Array.length_toList]
    exact hz
  · rw [Array.toArray_toList]; exact e
def gListS : GL := fun ds => match ds with
  | [.str z] => if z.length ≤ 16777216 then some (.own (.lst (signs z))) else none
  | _ => none
@[simp] theorem gListS_str (z : Str) : gListS [.str z] = if z.length ≤ 16777216 then some (.own (.lst (signs z))) else none := rfl
theorem rep_signs {K : PySem.W.Frag} {Av : AS} {H : Hp} : ∀ l : List Nat, RepAll K Av H (l.map fun c => V.str ⟨#[c]⟩) (l.map fun c => D.str ⟨#[c]⟩)
  | [] => .nil
  | c :: l => .cons (.str _) (rep_signs l)
theorem ok_listS : CallOk X rListS gListS := by
  intro G bs σ e w pd H vs ds R Q S r hg q
  unfold gListS at hg
  split at hg
  · split at hg
    · rename_i z hz
      cases hg
      obtain ⟨v, e1, r1⟩ := r.one
      exact ⟨z, by rw [e1, r1.str_inv], size16.mp hz, fun l hl => q.lst S (rep_signs _) hl⟩
    · cases hg
  · cases hg
end
end DL

end

section -- DL23
set_option Elab.async false
set_option linter.all false
set_option maxRecDepth 100000
set_option maxHeartbeats 2000000
/-! DL23: reckoning with the functions of the layer. -/
namespace DL
open PySem PySem.Spec L2

@[simp] theorem imm_nil : immAll [] = true := by rw [immAll]
@[simp] theorem imm_cons (d : D) (ds : List D) : immAll (d :: ds) = (d.imm && immAll ds) := by rw [immAll]
@[simp] theorem imm_int (i : Int) : (D.int i).imm = true := by simp [D.imm]
@[simp] theorem imm_str (i : Str) : (D.str i).imm = true := by simp [D.imm]
@[simp] theorem imm_bl (i : Bool) : (D.bl i).imm = true := by simp [D.imm]
@[simp] theorem imm_non : D.non.imm = true := by simp [D.imm]
@[simp] theorem imm_tup (l : List D) : (D.tup l).imm = immAll l := by rw [D.imm]
@[simp] theorem imm_lst (l : List D) : (D.lst l).imm = false := by rw [D.imm]
@[simp] theorem imm_map_int (l : List Int) : immAll (l.map D.int) = true := by
  induction l with
  | nil => simp
  | cons x l ih => simp [ih]
@[simp] theorem imm_map_str (l : List Str) : immAll (l.map D.str) = true := by
  induction l with
  | nil => simp
  | cons x l ih => simp [ih]
/-- one turn of a while -/
theorem while_no {c : TTf} {body : TSf} {s s1 : S} (h : c s = some (.tv false s1)) : whileS c body s = some (.nx ⟨s1.w, calmE s1.e⟩) := by
  rw [whileS_turn, h]
  simp only [tS_val, Bool.false_eq_true, if_false]
theorem while_yes {c : TTf} {body : TSf} {s s1 s2 : S} (h : c s = some (.tv true s1)) (hb : body ⟨s1.w, calmE s1.e⟩ = some (.nx s2)) : whileS c body s = whileS c body s2 := by
  rw [whileS_turn, h]
  simp only [tS_val, if_true, hb]
theorem while_ct {c : TTf} {body : TSf} {s s1 s2 : S} (h : c s = some (.tv true s1)) (hb : body ⟨s1.w, calmE s1.e⟩ = some (.ct s2)) : whileS c body s = whileS c body s2 := by
  rw [whileS_turn, h]
  simp only [tS_val, if_true, hb]
theorem while_rt {c : TTf} {body : TSf} {s s1 s2 : S} {r : Sl} (h : c s = some (.tv true s1)) (hb : body ⟨s1.w, calmE s1.e⟩ = some (.rt r s2)) : whileS c body s = some (.rt r s2) := by
  rw [whileS_turn, h]
  simp only [tS_val, if_true, hb]
end DL

end

section -- DL24
set_option Elab.async false
set_option linter.all false
set_option maxRecDepth 100000
set_option maxHeartbeats 1000000
/-! DL24: a comprehension whose parts leave the world alone, as filter and map. -/
namespace DL
open PySem PySem.Spec L2
/-- one turn that gives the same state back -/
def LcTurn (asg : TGf) (tt : TTf) (te : TEf) (vs : List Nat) (P : D → Bool) (f : D → D) (s0 : S) (d : D) : Prop :=
  (d.imm || noLck s0.e) = true ∧ ∃ s1 s2, asg d s0 = some s1 ∧ tt s1 = some (.tv (P d) s2) ∧ (P d = true → ∃ r s3, te s2 = some (.val r s3) ∧ r.dat = some (f d) ∧ (⟨s3.w, wipeE s3.e vs⟩ : S) = s0) ∧ (P d = false → (⟨s2.w, wipeE s2.e vs⟩ : S) = s0)
theorem lcS_pure {asg : TGf} {tt : TTf} {te : TEf} {vs : List Nat} {P : D → Bool} {f : D → D} {s0 : S} : ∀ (ds acc : List D), (∀ d ∈ ds, LcTurn asg tt te vs P f s0 d) → acc.length + ds.length ≤ 16777216 →
    lcS asg tt te vs ds acc s0 = some (.done (acc ++ (ds.filter P).map f) s0)
  | [], acc, _, _ => by simp [lcS]
  | d :: ds, acc, h, hl => by
    obtain ⟨h0, s1, s2, h1, h2, h3, h4⟩ := h d List.mem_cons_self
    have rest := fun acc' hl' => lcS_pure (P := P) (f := f) ds acc' (fun x hx => h x (List.mem_cons_of_mem _ hx)) hl'
    rw [List.length_cons] at hl
    unfold lcS
    rw [if_pos h0, h1]
    cases hp : P d with
    | true =>
      obtain ⟨r, s3, e1, e2, e3⟩ := h3 hp
      rw [hp] at h2
      simp only [h2, e1, e2]
      rw [if_pos (by omega), e3, rest _ (by rw [List.length_append, List.length_singleton]; omega), List.filter_cons_of_pos hp]
      simp
    | false =>
      rw [hp] at h2
      simp only [h2]
      rw [h4 hp, rest _ (by omega), List.filter_cons_of_neg (by rw [hp]; simp)]
theorem dLc_eq {ti : TIf} {asg : TGf} {tt : TTf} {te : TEf} {vs : List Nat} {s s1 s' : S} {ds acc : List D} {c : Bool} (h1 : ti s = some (.it ds c s1)) (h2 : lcS asg tt te vs ds [] ⟨s1.w, wipeE s1.e vs⟩ = some (.done acc s')) :
    dLc ti asg tt te vs s = some (.val (.own (.lst acc)) s') := by
  unfold dLc
  rw [h1, iE_val, h2]
/-- dg_tup inside a comprehension: K told -/
theorem dg_tupK {X : Cx} {K : PySem.W.Frag} {es : List Expr} {k : Nat} {pos : Pos} {ts : List TGf} {vs : List Nat} {n : Nat} {g : TGs} (hK : X.K = K) (hc : X.calm = true) (h : DGs X es ts vs g) (hn : (assignEach es X.env).length = n := by rfl) (hl : ts.length = n := by rfl) (hst : (assignEach es X.env).findIdx? (·.1) = none := by rfl) : DG X (.Tuple es k pos) (gTpl ts) vs (gTup K n g) := by
  subst hK
  exact dg_tup hc h hn hl hst
end DL

end

section -- DL25
set_option Elab.async false
set_option linter.all false
set_option maxRecDepth 100000
set_option maxHeartbeats 2000000
/-! DL25: the end of a law whose def makes functions: one table of code, a promise that leans on no repr being under way. -/
namespace DL
open PySem PySem.Spec L2 LamX
open PyProof.Rows
/-- the script's heap: the table stands empty, the script (where K does not know it) as it is -/
noncomputable def endH (K : PySem.W.Frag) (T a : Addr) (ob : Obj) (ns : List Int) : Hp := fun b => if b = T then some (.tbl #[]) else if b = a ∧ K.lookup a = none then some (.frz ob (.lst (ns.map V.int))) else none
theorem endH_cases {K : PySem.W.Frag} {T a b : Addr} {ob : Obj} {ns : List Int} {u : HO} (h : endH K T a ob ns b = some u) : (b = T ∧ u = .tbl #[]) ∨ (b ≠ T ∧ b = a ∧ K.lookup a = none ∧ u = .frz ob (.lst (ns.map V.int))) := by
  unfold endH at h
  split at h
  · rename_i e
    exact .inl ⟨e, (Option.some.inj h).symm⟩
  · rename_i e
    split at h
    · rename_i e2
      exact .inr ⟨e, e2.1, e2.2, (Option.some.inj h).symm⟩
    · cases h
section
variable {P : Program} {w : World} {K : PySem.W.Frag} {mg mb : Str → Option Value} {k : Nat} {fa a c T : Addr} {fd : FuncData} {x : Str} {sp : Sp} {s₁ : Shared} {vs : List Value} {ns : List Int}
theorem law_callG (KX : K.In s₁.heap) (hns : s₁.heap.Ns mainGlobals mg) (hb : s₁.heap.Ns builtinsNs mb) (hbb : ∀ x : Str, x ≠ "__name__" → mb x = bootBuiltins x) (hlim : s₁.heap.NoLimit) (hg : s₁.gens = #[])
    (hT : s₁.heap.get? T = some { cls := .none, data := .fields #[] }) (nT : K.lookup T = none) (C : PySem.W.CodeHd s₁.heap c T)
    (hbm : ∃ (bm : Addr) (ob : Obj), mg "__builtins__" = some (.ref bm) ∧ bm ≠ builtinsNs ∧ s₁.heap.get? bm = some ob ∧ ob.cls = .type "module" ∧ ob.dict = some builtinsNs ∧ ob.data = .plain)
    (ha : s₁.heap.get? a = some { cls := .type "list", data := .seq vs.toArray }) (hi : IntsAre vs ns) (hl : ns.length ≤ sizeLine) (hr : Rm k callerA)
    (F : ∀ base : Heap, K.In base → base.Ns mainGlobals mg → TabB base mg c T → FnG P w K mg base k fa fd [x] sp) (hbind : ∀ (s : Shared) (u : Value), BindsTo s fd ⟨[u], []⟩ [(x, u)])
    (hsp : ∀ H : Hp, H T = some (.tbl #[]) → SqL K H a (ns.map V.int) → sp [.ref a] H (fun v _ => v = .bl true) fun _ _ _ => False)
    (hCX : ∀ H e s', L2.CX P w [] H s₁ (fun _ _ _ => False) e s' → False) :
    codeAny (model P w) callerA (.call (.ref fa) ⟨[.ref a], []⟩) (fun r s' => r = .ok (.ret (.bool true)) ∧ OldK s₁.heap s'.heap ∧ s'.os = s₁.os ∧ AllBare s'.gens) s₁ := by
  have rv := vals_ints hi
  let ob : Obj := { cls := .type "list", data := .seq vs.toArray }
  let H := endH K T a ob ns
  have aT : a ≠ T := fun z => by
    rw [z, hT] at ha
    have z2 := congrArg Obj.data (Option.some.inj ha)
    cases z2
  have hTH : H T = some (.tbl #[]) := if_pos rfl
  have hok : HOk P w H s₁.heap := fun b u hu => by
    rcases endH_cases hu with ⟨e, eu⟩ | ⟨_, e, _, eu⟩
    · subst e eu
      exact hT
    · subst e eu
      exact ⟨ha, by rw [List.length_map]; exact hl, vs, _, rv, ha⟩
  -- what is neither the script nor an empty table stands in the written part
  have loose : ∀ {b : Addr} {o : Obj}, s₁.heap.get? b = some o → (∀ v n, o.data ≠ .seq v n) → o.data ≠ .fields #[] → (hidT s₁.heap H).get? b = some o := fun {b o} e n1 n2 => by
    refine hidT_get e ?_
    cases q : H b with
    | none => rfl
    | some u =>
      rcases endH_cases q with ⟨eb, _⟩ | ⟨_, eb, _, _⟩
      · rw [eb, hT] at e
        exact absurd (congrArg Obj.data (Option.some.inj e)).symm n2
      · rw [eb, ha] at e
        exact absurd (congrArg Obj.data (Option.some.inj e)).symm (n1 _ _)
  have nsI : ∀ {b : Addr} {m : Str → Option Value}, s₁.heap.Ns b m → (hidT s₁.heap H).Ns b m := fun {b m} ⟨o, es, ep, e, d, r⟩ => ⟨o, es, ep, loose e (fun v n z => by rw [d] at z; cases z) (fun z => by rw [d] at z; cases z), d, r⟩
  have inB : K.In (hidT s₁.heap H) := fun b o e => by
    refine hidT_get (KX b o e) ?_
    cases q : H b with
    | none => rfl
    | some u =>
      rcases endH_cases q with ⟨eb, _⟩ | ⟨_, eb, n, _⟩
      · rw [eb, nT] at e; cases e
      · rw [eb, n] at e; cases e
  have md : L2.Mod K mg (hidT s₁.heap H) := ⟨inB, nsI hns, ⟨mb, nsI hb, hbb⟩, let ⟨mc, h1, h2⟩ := hlim; ⟨mc, nsI h1, h2⟩⟩
  have nGT : mainGlobals ≠ T := fun z => by
    obtain ⟨o, es, ep, e, hd, _⟩ := hns
    rw [z, hT] at e
    cases e
    cases hd
  have TB : TabB (hidT s₁.heap H) mg c T := by
    refine ⟨?_, ?_, nGT⟩
    · obtain ⟨o, us, file, tf, flags, tg, inF, text, tt, e1, r1, r2, r3, rest⟩ := C
      exact ⟨o, us, file, tf, flags, tg, inF, text, tt, loose e1 (fun v n z => by rw [r2] at z; cases z) (fun z => by rw [r2] at z; cases z; simp at r3), r1, r2, r3, rest⟩
    · obtain ⟨bm, o, b1, b2, b3, b4, b5, b6⟩ := hbm
      refine ⟨bm, o, b1, b2, fun z => ?_, fun z => ?_, loose b3 (fun v n z => by rw [b6] at z; cases z) (fun z => by rw [b6] at z; cases z), b4, b5, b6⟩
      · obtain ⟨o2, es, ep, e, hd, _⟩ := hns
        rw [z, e] at b3
        cases b3
        rw [hd] at b6
        cases b6
      · rw [z, hT] at b3
        cases b3
        cases b6
  have sq : SqL K H a (ns.map V.int) := by
    cases hk : K.lookup a with
    | none => exact .inl (.inr ⟨ob, (if_neg aT).trans (if_pos ⟨rfl, hk⟩)⟩)
    | some o =>
      have e := KX a o hk
      rw [ha] at e
      cases e
      exact .inr ⟨_, vs.toArray, _, hk, rfl, rfl, rfl, by rw [List.size_toArray, hi.length]; exact hl, by simpa using rv⟩
  have e0 : Env0 P w K mg (hidT s₁.heap H) callerA [] s₁ H := ⟨rfl, md, fun b o e => of_hidT e, Nat.le_of_eq (hidT_size _ _), trivial, (fun b hb => by cases hb), hok, .of_eq hg⟩
  refine codeAny_mono ((F _ inB (nsI hns) TB).run callerA [] s₁ H ⟨[.ref a], []⟩ [.ref a] [.ref a] _ _ hr e0 (hbind s₁ (.ref a)) (.cons rfl .nil) (hsp H hTH sq)) fun r s' h => ?_
  match r, h with
  | .error e, h => exact (hCX H e s' h).elim
  | .ok .next, h => exact False.elim h
  | .ok .brk, h => exact False.elim h
  | .ok .cont, h => exact False.elim h
  | .ok (.ret u), h =>
    obtain ⟨v, H', os, bare, un, hok', r', q⟩ := h
    have q' : v = .bl true := q
    subst q'
    obtain rfl : u = Value.bool true := r'
    obtain ⟨more, hm⟩ := un.tbls T #[] hTH
    obtain ⟨m2, tab⟩ : ∃ m2 : Array Value, s'.heap.get? T = some { cls := .none, data := .fields m2 } := ⟨_, hok' T _ hm⟩
    have key : ∀ b o, b ≠ T → s₁.heap.get? b = some o → s'.heap.get? b = some o := fun b o nb e => by
      cases q : H b with
      | none => exact un.keep b o e q (fun z => by cases z) (fun z => by cases z)
      | some u =>
        rcases endH_cases q with ⟨eb, _⟩ | ⟨_, _, _, eu⟩
        · exact absurd eb nb
        · rw [eu] at q
          have e1 := (hok b _ q).1
          have e2 := (hok' b _ (un.frzs b _ _ q)).1
          rw [e] at e1
          cases e1
          exact e2
    refine ⟨rfl, ⟨fun b o e => ?_, fun b o e => ?_⟩, os, bare⟩
    · by_cases nb : b = T
      · subst nb
        rw [hT] at e
        cases e
        exact .inr (.inl ⟨(C.tab hT).isCodeTable, rfl, #[], m2, rfl, by rw [Array.empty_append]; exact tab⟩)
      · exact .inl (key b o nb e)
    · by_cases nb : b = T
      · subst nb
        exact ⟨_, tab⟩
      · exact ⟨o, key b o nb e⟩
end
end DL

end

section -- DL26
set_option Elab.async false
set_option linter.all false
set_option maxRecDepth 100000
set_option maxHeartbeats 2000000
/-! DL26: a law: draw = _law_begun(script), then its body as a function of the state. -/
namespace DL
open PySem PySem.Spec L2
open PyProof.Rows (envOfC)
def spLaw (K : PySem.W.Frag) (T : Addr) (n : Nat) : Sp := fun vs H Q _ => ∃ (a : Addr) (ns : List Int), vs = [.ref a] ∧ SqL K H a (ns.map V.int) ∧ ns.length ≤ n ∧ H T = some (.tbl #[]) ∧ ∀ H', Q (.bl true) H'
/-- the state behind the first row -/
def lawS (key : Str) (f : List Int → List Int × List Int) (T0 : List (Addr × Str)) (m : Nat) (ns : List Int) : S := ⟨⟨(f ns).1, (f ns).2, 0, 0, key, T0⟩, [.sh (.lst (ns.map .int)), .dr] ++ List.replicate m .no⟩
section
variable {P : Program} {w : World} {K : PySem.W.Frag} {mg : Str → Option Value} {base : Heap} {f fb : Addr} {fd fdb : FuncData} {k : Nat}
theorem law_rest {E : XK} {a d l c T : Addr} {q key : Str} {fn : List Int → List Int × List Int} {ns : List Int} {H H' : Hp} {Q : VK} {N : List Str} {m : Nat} {t : TSf} (hk : N.length = m + 2)
    (sq : SqL K H a (ns.map V.int)) (hT : H T = some (.tbl #[])) (ch : Ch (fun _ => False) H H') (hd : H d = none) (hl : H l = none) (hc : H c = none) (lc : l ≠ c)
    (e1 : H' d = some (.dK (drKvs ⟨d, l, c, []⟩ ⟨(fn ns).1, (fn ns).2, 0, 0, key, []⟩))) (e2 : H' l = some (.lst ((fn ns).1.map V.int))) (e3 : H' c = some (.lst ((fn ns).2.map V.int)))
    (ht : ∃ s', t (lawS key fn [(T, q)] m ns) = some (.rt (.sh (.bl true)) s')) (hQ : ∀ H', Q (.bl true) H') :
    ∃ G', liftS K G' [] E t { nx := fun _ H' => Q .non H', rt := Q } (start N [.ref a, .ref d]) H' := by
  obtain ⟨s', ht⟩ := ht
  have hT' := ch T _ (fun z => z) hT
  have noDr : ∀ b u, H b = some u → (∀ ps, u ≠ .tbl ps) → ¬ DrS (some ⟨d, l, c, [(T, q)]⟩) b := fun b u hb nt z => by
    obtain ⟨r, hr, z⟩ := z
    cases hr
    rcases z with z | z | z | ⟨p, hp, z⟩
    · rw [z, hd] at hb; cases hb
    · rw [z, hl] at hb; cases hb
    · rw [z, hc] at hb; cases hb
    · rw [List.mem_singleton.mp hp] at z
      rw [z, hT] at hb
      exact nt _ (Option.some.inj hb).symm
  have ra : RepAll K (fun b => False ∨ DrS (some ⟨d, l, c, [(T, q)]⟩) b) H' (ns.map V.int) (ns.map D.int) := by
    clear ht e1 e2 e3 sq
    induction ns with
    | nil => exact .nil
    | cons z r ih => exact .cons (.int z) ih
  have sq' : SqLA K (fun b => False ∨ DrS (some ⟨d, l, c, [(T, q)]⟩) b) H' a (ns.map V.int) := by
    rcases sq with z | z
    · refine .inl ⟨Rd.ch ch (fun z => z) z, fun y => ?_⟩
      rcases y with y | y
      · exact y
      · rcases z with z | ⟨o, z⟩
        · exact noDr a _ z (fun ps e => by cases e) y
        · exact noDr a _ z (fun ps e => by cases e) y
    · exact .inr z
  have R := SRep.enter (K := K) (A := fun _ => False) (dr := some ⟨d, l, c, [(T, q)]⟩) (H := H') (w := (lawS key fn [(T, q)] m ns).w) (N := N) (vs := [.ref a, .ref d]) (rs := [.sh (.lst (ns.map .int)), .dr]) (fun b z => z.elim)
    ⟨fun _ => ⟨_, rfl, rfl⟩, fun r hr => by
      cases hr
      exact ⟨e1, e2, e3, lc, fun p hp => by rw [List.mem_singleton.mp hp]; exact LamX.TabS.nil hT'⟩⟩ ⟨.lst sq' ra, ⟨_, rfl, rfl⟩, True.intro⟩ (by rw [hk]; show 2 ≤ m + 2; omega)
  refine ⟨⟨fun _ => False, H', some ⟨d, l, c, [(T, q)]⟩⟩, lawS key fn [(T, q)] m ns, ?_, ?_⟩
  · have em : N.length - [Sl.sh (.lst (ns.map .int)), Sl.dr].length = m := by rw [hk]; rfl
    rw [em] at R
    exact R
  · rw [ht]
    intro σ' v x H2 R2 r
    obtain ⟨_, r⟩ := r
    have ev : v = .bl true := by cases r; rfl
    rw [ev]
    exact hQ H2
/-- THE RULE for a law -/
theorem fnG_law {N : List Str} {st : Stmt} {x y g key q : Str} {c T : Addr} {n m : Nat} {fn : List Int → List Int × List Int} {t : TSf} {rest : List Stmt} {p1 p2 p3 p4 p5 : Pos} (F : FnP K x st f fd) (S : FnScope (y :: "draw" :: N) [y] (defScope st)) (hc : fd.code = .ref c) (hm : N.length = m) (hn : n ≤ 16777216)
    (hst : defBody st = .Assign [.Name "draw" p1] (.Call (.Name g p2) [.Name y p3] [] p4) p5 :: rest)
    (first : ∀ (A : Around) (fs : List Env) (s : Shared) (H : Hp) (E : XK), Rm k (A.deeper (envOfC x (defScope st) s.heap.objs.size f (.ref c))) → PS (cxOf (L2.CX P w) P w K mg base (y :: "draw" :: N) x (defScope st) f (.ref c) A fs s H E) (.Assign [.Name "draw" p1] (.Call (.Name g p2) [.Name y p3] [] p4) p5) (tAsg (tCallS (spBegun K fn key) (fun _ => E) (tCons (tVar 0) tNil)) (gName 1)))
    (hbody : ∀ (A : Around) (fs : List Env) (s : Shared) (H : Hp) (E : XK), Rm k (A.deeper (envOfC x (defScope st) s.heap.objs.size f (.ref c))) → DSs (cxOf (L2.CX P w) P w K mg base (y :: "draw" :: N) x (defScope st) f (.ref c) A fs s H E) E rest t)
    (ht : ∀ ns : List Int, ns.length ≤ n → ∃ s', t (lawS key fn [(T, q)] m ns) = some (.rt (.sh (.bl true)) s')) : FnG P w K mg base (k + 1) f fd [y] (spLaw K T n) := by
  refine fnG_ofC F S (fun vs H Q E ⟨a, ns, e, _⟩ => by rw [e]; rfl) fun cdv hcd A fs s H vs Q E hr h => ?_
  have ec : cdv = .ref c := hcd.symm.trans hc
  subst ec
  obtain ⟨a, ns, rfl, sq, hl, hT, hQ⟩ := h
  have rest' : PSs (cxOf (L2.CX P w) P w K mg base (y :: "draw" :: N) x (defScope st) f (.ref c) A fs s H E) rest (fun D σ H => ∃ G', liftS K G' [] E t D σ H) := ⟨fun pins s1 σ H1 D I ⟨G', z⟩ => ((hbody A fs s H E hr).run G' []).run pins s1 σ H1 D I z⟩
  rw [hst]
  refine ⟨_, pss_cons (first A fs s H E hr) rest', ?_⟩
  refine ⟨.ref a, rfl, a, ns, rfl, sq, Nat.le_trans hl hn, fun d l c' H' ch hd hl' hc' lc e1 e2 e3 => ?_⟩
  have es : (start (y :: "draw" :: N) [V.ref a]).set 1 (some (.ref d)) = start (y :: "draw" :: N) [.ref a, .ref d] := by
    unfold L2.start
    simp [List.replicate_succ]
  show ∃ G', liftS K G' [] E t _ ((start (y :: "draw" :: N) [V.ref a]).set 1 (some (.ref d))) H'
  rw [es]
  exact law_rest (m := m) (by rw [List.length_cons, List.length_cons, hm]) sq hT ch hd hl' hc' lc e1 e2 e3 (ht ns hl) hQ
end
end DL

end

section -- DL27
set_option Elab.async false
set_option linter.all false
set_option maxRecDepth 100000
set_option maxHeartbeats 2000000
/-! DL27: what the head must tell of an own error class, as a Bool and a row of data; the Hook. -/
namespace DL
open PySem PySem.Spec L2 PySem.W PySem.HandSPX
def ccOf (K : Frag) (fI : Addr) : Addr := match K.lookup fI with
  | some ⟨_, _, .func fd, _⟩ => (match fd.closure with
    | [(_, a)] => a
    | _ => 0)
  | _ => 0
def cdaOf (K : Frag) (fI : Addr) : Addr := match K.lookup fI with
  | some ⟨_, _, .func fd, _⟩ => (match fd.code with
    | .ref a => a
    | _ => 0)
  | _ => 0
abbrev SupV : Type := Option (Str × Str × Arguments × FuncBody × Scope × Addr × List Str × Value × Value × Addr)
def supObs (K : Frag) (fI : Addr) : SupV := match K.lookup fI with
  | some ⟨_, _, .func fd, _⟩ => some (fd.name, fd.qualname, fd.params, fd.body, fd.scope, fd.globals, fd.closure.map (·.1), fd.defaults, fd.kwdefaults, fd.builtins)
  | _ => none
def cellB (K : Frag) (cc C : Addr) : Bool := match K.lookup cc with
  | some ⟨_, _, .cell (some (.ref c)), _⟩ => decide (c = C)
  | _ => false
def codeB (K : Frag) (cda : Addr) (file : Str) : Bool := match K.lookup cda with
  | some ⟨_, _, .fields vs, _⟩ => (match (vs[2]? : Option Value) with
    | some (.str fl _) => file == fl
    | _ => false)
  | _ => false
def clsB (K : Frag) (C : Addr) : Bool := match clsIn K C with
  | some cd => refsVE cd.mro && cd.hasDict
  | none => false
def codeRefB (K : Frag) (fI : Addr) : Bool := match K.lookup fI with
  | some ⟨_, _, .func fd, _⟩ => (match fd.code with
    | .ref _ => true
    | _ => false)
  | _ => false
def supOk (K : Frag) (file qual f : Str) (C fI : Addr) : Bool :=
  excInitIn K C He.veBase "ValueError.__new__" && (clsB K C && (He.eqO (findIn K (.ref C) "__setattr__") (some (some (.builtin "object.__setattr__"))) && (He.eqO (findIn K (.ref C) "__getattribute__") (some (some (.builtin "BaseException.__getattribute__"))) && (He.eqO (findIn K (.ref C) "__getattr__") (some none) &&
  (He.eqO (findIn K (.ref C) f) (some none) && (He.eqO (findIn K (.ref C) "__init__") (some (some (.ref fI))) && (decide (typeIn K (.ref fI) = some (.type "function")) && (keepIn K (.ref C) && (decide (subIn K (.ref C) (.type "BaseException") = some true) && (decide (typeIn K (.ref C) = some (.type "type")) &&
  (hasDictIn K C && (decide (subIn K (.ref C) (.type "ValueError") = some true) && (He.eqO (ks_superIn K C C "__init__") (some (some (.builtin "ValueError.__init__"))) && (decide (mroIn K C (.ref C) = some true) && (He.eqO (nsIn K cStatics "thirdparty.any") (some none) && (He.eqO (nsIn K mainGlobals "super") (some none) &&
  (cellB K (ccOf K fI) C && (codeB K (cdaOf K fI) file && (codeRefB K fI && codeIn K (.ref (cdaOf K fI)) qual)))))))))))))))))))
/-- isinstance(e, C) may be asked of such an exception, its field read -/
def excB (K : Frag) (C : Addr) : Bool := He.eqO (findIn K (.ref C) "__getattribute__") (some (some (.builtin "BaseException.__getattribute__"))) && (He.eqO (findIn K (.ref C) "__getattr__") (some none) && (decide (subIn K (.ref C) (.type "BaseException") = some true) && (hasDictIn K C && (He.eqO (findIn K (.ref C) "__class__") (some (some (.builtin "object.__class__"))) &&
  (He.eqO (specialIn K (.builtin "object.__class__") "__get__") (some (some (.builtin "getset_descriptor.__get__"))) && (decide (takesIn K (.builtin "object.__class__") = some true) && decide (mroIn K C (.type "object") = some true)))))))
theorem excB_ok {K : Frag} {C : Addr} (h : excB K C = true) : L2.ExcC K C ∧ XfC K C := by
  unfold excB at h
  simp only [Bool.and_eq_true] at h
  obtain ⟨h1, h2, h3, h4, h5, h6, h7, h8⟩ := h
  exact ⟨⟨He.eqO_ok h1, He.eqO_ok h2, of_decide_eq_true h3, h4, He.eqO_ok h5, He.eqO_ok h6, of_decide_eq_true h7, of_decide_eq_true h8⟩, ⟨He.eqO_ok h1, He.eqO_ok h2, of_decide_eq_true h3, h4⟩⟩
theorem supObs_ok {K : Frag} {fI : Addr} {n q : Str} {pa : Arguments} {bo : FuncBody} {sc : Scope} {dV kV : Value} (h : supObs K fI = some (n, q, pa, bo, sc, mainGlobals, [("__class__" : Str)], dV, kV, builtinsNs)) (hr : codeRefB K fI = true) :
    ∃ (oc : Value) (od : Option Addr) (doc pm : Value) (an : Option Addr) (ct : Value) (osl : Array (Option Value)), K.lookup fI = some ⟨oc, od, .func { name := n, qualname := q, params := pa, body := bo, scope := sc, globals := mainGlobals, closure := [("__class__", ccOf K fI)], defaults := dV, kwdefaults := kV, doc := doc, pyModule := pm, annotations := an, code := .ref (cdaOf K fI), closureTuple := ct, builtins := builtinsNs }, osl⟩ := by
  unfold supObs at h
  cases e : K.lookup fI with
  | none => rw [e] at h; cases h
  | some o =>
    obtain ⟨oc, od, dt, osl⟩ := o
    rw [e] at h
    cases dt with
    | func fd =>
      obtain ⟨n1, n2, n3, n4, n5, n6, n7, n8, n9, n10, n11, n12, n13, n14, n15⟩ := fd
      have h2 : (some (n1, n2, n3, n4, n5, n6, n7.map (·.1), n8, n9, n15) : SupV) = some (n, q, pa, bo, sc, mainGlobals, [("__class__" : Str)], dV, kV, builtinsNs) := h
      simp only [Option.some.injEq, Prod.mk.injEq] at h2
      obtain ⟨h1, h2, h3, h4, h5, h6, h7, h8, h9, h10⟩ := h2
      subst h1 h2 h3 h4 h5 h6 h8 h9 h10
      cases n7 with
      | nil => simp at h7
      | cons y r =>
        cases r with
        | cons _ _ => simp at h7
        | nil =>
          obtain ⟨x, a⟩ := y
          have hx : x = PySem.Str.ofString "__class__" := by simpa using h7
          rw [hx] at e
          have e1 : ccOf K fI = a := by unfold ccOf; rw [e]
          cases n13 with
          | ref c =>
            have e2 : cdaOf K fI = c := by unfold cdaOf; rw [e]
            exact ⟨oc, od, n10, n11, n12, n14, osl, by rw [e1, e2, hx]⟩
          | _ =>
            unfold codeRefB at hr
            rw [e] at hr
            cases hr
    | _ => cases h
/-- what an own error class's __init__ is, read off its rows -/
structure SupRow (f msg : Str) (pa : Arguments) (bo : FuncBody) (sc : Scope) : Prop where
  pa : ∃ p1 p2, pa = supA f p1 p2
  bo : ∃ (j : Nat) (q1 q2 q3 q4 q5 q6 q7 q8 q9 q10 : Pos), bo = .stmts (supB f msg j q1 q2 q3 q4 q5 q6 q7 q8 q9 q10) ∧ (q3.endLine == q5.line) = true
  sc : sc = supS f
theorem eval_sup {msg : Str} {j : Nat} {q1 q2 q3 q4 q5 : Pos} (h : (q3.endLine == q5.line) = true) (env : Env) : eval (.Call (.Attribute (.Call (.Name "super" q1) [] [] q2) "__init__" q3) [.Constant (.str msg) j q4] [] q5) env = (do
      let ov ← attributeBase (.Call (.Name "super" q1) [] [] q2) "__init__" env (eval (.Call (.Name "super" q1) [] [] q2) env)
      standAt q3.atName
      let (f, first) ← holding [ov] (getMethod ov "__init__" (L2.plainOf (.Call (.Name "super" q1) [] [] q2) env))
      callWith q5 f first (backTo q5 (starEach [.Constant (.str msg) j q4] env)) []) := by
  have e := fun ov => mcall_line (o := .Call (.Name "super" q1) [] [] q2) (m := "__init__") (apos := q3) (pos := q5) (env := env) (ov := ov) (n := 1) (args := backTo q5 (starEach [.Constant (.str msg) j q4] env)) (kws := []) (by rfl) h
  simp only [← e]
  rfl
theorem supT_of {K : Frag} {prog : Program} {C fI : Addr} {qual f msg : Str} {pa : Arguments} {bo : FuncBody} {sc : Scope} (hb : supOk K prog.main.file qual f C fI = true) (ho : supObs K fI = (some (PySem.Str.ofString "__init__", qual, pa, bo, sc, mainGlobals, [PySem.Str.ofString "__class__"], Value.none, Value.none, builtinsNs) : SupV)) (R : SupRow f msg pa bo sc)
    (ne1 : (f == ("__debug__" : Str)) = false) (ne2 : f ≠ "self") (ne3 : f ≠ "super") (ne4 : f ≠ "__class__") (top : (prog.main.scope.names.lookup ("super" : Str)).isSome = false)
    (bnd : ∀ (qual : Str) (body : List Stmt) (scope : Scope) (doc pm : Value) (an : Option Addr) (cd ct : Value) (cc : Addr) (p1 p2 : Pos) (x v : Value), bindArgs (ksFn "__init__" qual (supA f p1 p2) body scope .none .none doc pm an cd ct cc) ⟨[x, v], []⟩ = pure [((PySem.Str.ofString "self", x) : Str × Value), (f, v)]) :
    SupT K prog C fI (ccOf K fI) (cdaOf K fI) qual f msg := by
  unfold supOk at hb
  simp only [Bool.and_eq_true] at hb
  obtain ⟨b1, b2, b3, b4, b5, b6, b7, b8, b9, b10, b11, b12, b13, b14, b15, b16, b17, b18, b19, b20, b21⟩ := hb
  obtain ⟨oc, od, doc, pm, an, ct, osl, lk⟩ := supObs_ok ho b20
  obtain ⟨p1, p2, rfl⟩ := R.pa
  obtain ⟨j, q1, q2, q3, q4, q5, q6, q7, q8, q9, q10, rfl, hq⟩ := R.bo
  have hsc := R.sc
  subst hsc
  refine ⟨b1, ?_, He.eqO_ok b3, He.eqO_ok b4, He.eqO_ok b5, He.eqO_ok b6, He.eqO_ok b7, of_decide_eq_true b8, b9, of_decide_eq_true b10, of_decide_eq_true b11, b12, of_decide_eq_true b13, He.eqO_ok b14, of_decide_eq_true b15, He.eqO_ok b16, He.eqO_ok b17, ne1, ne2, ne3, ne4, top, bnd, ?_, ?_,
    ⟨oc, od, doc, pm, an, ct, osl, p1, p2, j, q1, q2, q3, q4, q5, q6, q7, q8, q9, q10, lk, b21, fun env => L2.plainOf (.Call (.Name "super" q1) [] [] q2) env, eval_sup hq⟩⟩
  · unfold clsB at b2
    cases e : clsIn K C with
    | none => rw [e] at b2; cases b2
    | some cd =>
      rw [e] at b2
      obtain ⟨h1, h2⟩ := Bool.and_eq_true_iff.mp b2
      exact ⟨cd, rfl, h1, h2⟩
  · unfold cellB at b18
    split at b18
    · rename_i lk2
      rw [of_decide_eq_true b18] at lk2
      exact ⟨_, _, _, lk2⟩
    · cases b18
  · unfold codeB at b19
    split at b19
    · rename_i lk2
      split at b19
      · rename_i e
        exact ⟨_, _, _, _, _, _, lk2, e, b19⟩
      · cases b19
    · cases b19
/-! ### the Hook: the kit's with more facts, tables and such classes; it looks at the interpreter's statics too -/
abbrev SupD : Type := (Frag → Addr) × SupV
def asR (g : Addr → Option Obj) (n : Nat) : List Addr := He.asD g n ++ [cStatics]
abbrev AlL : Type := He.AlX × List SupV
def obsL (n : Nat) (fa : List He.Fa) (fn : List He.DefD) (tf : List He.Defn) (ex : Frag → Bool) (sv : List SupD) (g : Addr → Option Obj) : AlL :=
  ((He.obsT fa fn [] (He.frT g (asR g n)), ex (He.frT g (asR g n)) && He.tabsB g tf (He.frT g (asR g n))), sv.map fun p => supObs (He.frT g (asR g n)) (p.1 (He.frT g (asR g n))))
def valL (fn : List He.DefD) (sv : List SupD) (w : World) : AlL := (He.valX fn [] w, sv.map (·.2))
structure SaysL (fa : List He.Fa) (fn : List He.DefD) (tf : List He.Defn) (ex : Frag → Bool) (sv : List SupD) (w : World) (h : Heap) (K : Frag) : Prop where
  x : He.SaysX fa fn [] tf ex w h K
  s : sv.map (fun p => supObs K (p.1 K)) = sv.map (·.2)
theorem saysL_of {n : Nat} {fa : List He.Fa} {fn : List He.DefD} {tf : List He.Defn} {ex : Frag → Bool} {sv : List SupD} {w : World} {h : Heap} (e : obsL n fa fn tf ex sv h.get? = valL fn sv w) : SaysL fa fn tf ex sv w h (He.frT h.get? (asR h.get? n)) := by
  have e0 : (He.obsT fa fn [] (He.frT h.get? (asR h.get? n)), ex (He.frT h.get? (asR h.get? n)) && He.tabsB h.get? tf (He.frT h.get? (asR h.get? n))) = He.valX fn [] w := congrArg (fun z : AlL => z.1) e
  have e1 : He.obsT fa fn [] (He.frT h.get? (asR h.get? n)) = He.valT fn [] w := congrArg (fun z : He.AlX => z.1) e0
  have e2 : (ex (He.frT h.get? (asR h.get? n)) && He.tabsB h.get? tf (He.frT h.get? (asR h.get? n))) = true := congrArg (fun z : He.AlX => z.2) e0
  have e3 := congrArg (fun z : AlL => z.2) e
  obtain ⟨h1, h2⟩ := He.ba e2
  have each : ∀ p ∈ tf, codeHdIn (He.frT h.get? (asR h.get? n)) (He.cT (He.frT h.get? (asR h.get? n)) p).1 (He.cT (He.frT h.get? (asR h.get? n)) p).2 = true ∧ ∃ o, h.get? (He.cT (He.frT h.get? (asR h.get? n)) p).2 = some o ∧ He.emptyTab o = true := fun p hp => by
    have h3 := List.all_eq_true.mp h2 p hp
    obtain ⟨h4, h5⟩ := He.ba h3
    refine ⟨h4, ?_⟩
    split at h5
    · rename_i o q
      exact ⟨o, q, h5⟩
    · cases h5
  exact ⟨⟨e1, h1, fun p hp => (each p hp).1, fun p hp => (each p hp).2.elim fun o z => He.frT_none z.1 z.2, fun p hp => (each p hp).2.elim fun o z => by rw [z.1, He.emptyTab_eq z.2]⟩, e3⟩
def hookL (n : Nat) (fa : List He.Fa) (fn : List He.DefD) (tf : List He.Defn) (ex : Frag → Bool) (sv : List SupD) : PySem.W.Hook where
  α := AlL
  obs := fun s => obsL n fa fn tf ex sv s.heap.get?
  val := fun w => valL fn sv w
  says := fun w h => ∃ K : Frag, K.In h ∧ SaysL fa fn tf ex sv w h K
  of := fun _ _ e => ⟨_, He.frT_in, saysL_of e⟩
  keeps := fun _ _ _ ⟨K, hK, c⟩ k => ⟨K, Frag.In.keeps hK k, ⟨⟨c.x.t, c.x.more, c.x.hd, c.x.out, fun p hp => k _ _ (c.x.empty p hp)⟩, c.s⟩⟩
theorem obsL_eq {n : Nat} {fa : List He.Fa} {fn : List He.DefD} {tf : List He.Defn} {ex : Frag → Bool} {sv : List SupD} {g : Addr → Option Obj} {s : Shared} (h : ∀ a, g a = s.heap.get? a) : obsL n fa fn tf ex sv g = (hookL n fa fn tf ex sv).obs s := by
  have e : g = s.heap.get? := funext h
  rw [e] <;> rfl
theorem SaysL.sup {fa : List He.Fa} {fn : List He.DefD} {tf : List He.Defn} {ex : Frag → Bool} {sv : List SupD} {w : World} {h : Heap} {K : Frag} (c : SaysL fa fn tf ex sv w h K) {p : SupD} (i : Nat) (hp : sv[i]? = some p := by rfl) : supObs K (p.1 K) = p.2 := by
  have e := congrArg (fun l => l[i]?) c.s
  simp only [List.getElem?_map, hp, Option.map_some] at e
  exact Option.some.inj e
/-- THE END of such a law -/
theorem walk_law {l : PySem.W.OpenLaw} {n k : Nat} {q : Program} {loose : List Str} {XP : (Str → Option Value) → Heap → Prop} {YP : World → Heap → Prop} {d : DefRec} {x : Str}
    (hn : l.most = some n) (hn2 : n ≤ sizeLine) (hdf : d.params.defaults = []) (hr : Rm k callerA)
    (F : ∀ (w : World) (mg : Str → Option Value) (fa : Addr) (h : Heap), YP w h → h.Ns mainGlobals mg → mg d.name = some (.ref fa) → ∃ (K : Frag) (fd : FuncData) (c T : Addr), K.In h ∧ h.get? T = some { cls := .none, data := .fields #[] } ∧ K.lookup T = none ∧ CodeHd h c T ∧ (∀ (s : Shared) (u : Value), BindsTo s fd ⟨[u], []⟩ [(x, u)]) ∧
      ∀ base : Heap, K.In base → base.Ns mainGlobals mg → LamX.TabB base mg c T → FnG l.prog w K mg base k fa fd [x] (spLaw K T n)) :
    PySem.W.WalkO q loose XP YP l.row.toRowW d [] (fun f vs => PySem.call f vs) := by
  refine Att.attach_callB hn hdf fun w s₀ s₁ mg mb fa o pm cd doc a vs ns G Y ho hd hcd hmg hobj hints hlen hbits hg => ?_
  obtain ⟨K, fd, c, T, KX, hT, nT, C, hb, hF⟩ := F w mg fa _ Y G.T.g hmg
  exact law_callG KX G.T.g G.T.b G.T.builtins G.T.nolimit hg hT nT C G.T.bmain hobj hints (Nat.le_trans hlen hn2) hr hF hb (fun H hH hS => ⟨a, ns, rfl, hS, hlen, hH, fun _ => rfl⟩) fun H e s' z => by
    obtain ⟨_, _, _, _, _, _, _, _, _, _, _, _, z⟩ := z
    exact z
end DL

end

section -- DL28
set_option Elab.async false
set_option linter.all false
set_option maxRecDepth 100000
set_option maxHeartbeats 2000000
/-! DL28: equations of the loops. -/
namespace DL
open PySem PySem.Spec L2
theorem forS_nil {asg : TGf} {body : TSf} {s : S} : forS asg body [] s = some (.nx s) := rfl
theorem forS_nx {asg : TGf} {body : TSf} {d : D} {ds : List D} {s s1 s2 : S} (ha : asg d s = some s1) (hb : body s1 = some (.nx s2)) : forS asg body (d :: ds) s = forS asg body ds s2 := by
  simp only [forS, ha, hb]
theorem forS_rt {asg : TGf} {body : TSf} {d : D} {ds : List D} {s s1 s2 : S} {r : Sl} (ha : asg d s = some s1) (hb : body s1 = some (.rt r s2)) : forS asg body (d :: ds) s = some (.rt r s2) := by
  simp only [forS, ha, hb]
theorem forS_bk {asg : TGf} {body : TSf} {d : D} {ds : List D} {s s1 s2 : S} (ha : asg d s = some s1) (hb : body s1 = some (.bk s2)) : forS asg body (d :: ds) s = some (.nx s2) := by
  simp only [forS, ha, hb]
theorem forS_ct {asg : TGf} {body : TSf} {d : D} {ds : List D} {s s1 s2 : S} (ha : asg d s = some s1) (hb : body s1 = some (.ct s2)) : forS asg body (d :: ds) s = forS asg body ds s2 := by
  simp only [forS, ha, hb]
theorem gNm_eq {i : Nat} {d : D} {w : W} {e : List Sl} (h : i < e.length) : gNm i d ⟨w, e⟩ = some ⟨w, e.set i (.sh d)⟩ := if_pos h
theorem dSeq_nx {t u : TSf} {s s' : S} (h : t s = some (.nx s')) : dSeq t u s = u s' := by
  unfold dSeq
  rw [h]
  rfl
theorem dSeq_rt {t u : TSf} {s s' : S} {r : Sl} (h : t s = some (.rt r s')) : dSeq t u s = some (.rt r s') := by
  unfold dSeq
  rw [h]
  rfl
theorem dFor_eq {ti : TIf} {asg : TGf} {body : TSf} {s s1 : S} {ds : List D} {c : Bool} {o : Option Fl} (h : ti s = some (.it ds c s1)) (h2 : forS asg body ds ⟨s1.w, settleB c s1.e⟩ = o) : dFor ti asg body s = o := by
  unfold dFor
  rw [h]
  exact h2
theorem runF_rt {n : Nat} {t : TSf} {w : W} {rs : List Sl} {r : Sl} {s : S} (h : t ⟨w, rs ++ List.replicate (n - rs.length) .no⟩ = some (.rt r s)) : runF n t w rs = some (.rt r s) := by
  unfold runF
  rw [h]
theorem runF_nx {n : Nat} {t : TSf} {w : W} {rs : List Sl} {s : S} (h : t ⟨w, rs ++ List.replicate (n - rs.length) .no⟩ = some (.nx s)) : runF n t w rs = some (.rt (.sh .non) s) := by
  unfold runF
  rw [h]
end DL

end

section -- DL29
set_option Elab.async false
set_option linter.all false
set_option maxRecDepth 100000
set_option maxHeartbeats 2000000
/-! DL29: a call's end as an equation: the value and the world, no slots. -/
namespace DL
open PySem PySem.Spec L2
/-- a call's end -/
inductive CR where
  | ret (r : Sl) (w : W)
  | exc (x : Ex) (w : W)
def cr : Option Fl → Option CR
  | some (.rt (.sh d) s) => some (.ret (.sh d) s.w)
  | some (.rt (.own d) s) => some (.ret (.own d) s.w)
  | some (.exc x w) => some (.exc x w)
  | _ => none
@[simp] theorem cr_sh (d : D) (s : S) : cr (some (.rt (.sh d) s)) = some (.ret (.sh d) s.w) := rfl
@[simp] theorem cr_own (d : D) (s : S) : cr (some (.rt (.own d) s)) = some (.ret (.own d) s.w) := rfl
@[simp] theorem cr_exc (x : Ex) (w : W) : cr (some (.exc x w)) = some (.exc x w) := rfl
def reR (e : List Sl) : Option CR → Option RE
  | some (.ret r w) => some (.val r ⟨w, e⟩)
  | some (.exc x w) => some (.exc x w)
  | none => none
@[simp] theorem reR_ret (e : List Sl) (r : Sl) (w : W) : reR e (some (.ret r w)) = some (.val r ⟨w, e⟩) := rfl
@[simp] theorem reR_exc (e : List Sl) (x : Ex) (w : W) : reR e (some (.exc x w)) = some (.exc x w) := rfl
theorem callEnd_cr (e : List Sl) : ∀ o : Option Fl, callEnd e o = reR e (cr o)
  | some (.rt (.sh d) s) => rfl
  | some (.rt (.own d) s) => rfl
  | some (.rt (.lck d) s) => rfl
  | some (.rt .no s) => rfl
  | some (.rt .dr s) => rfl
  | some (.exc x w) => rfl
  | some (.nx _) => rfl
  | some (.bk _) => rfl
  | some (.ct _) => rfl
  | none => rfl
theorem dCall_cr (F : FN) (u : TAf) (s : S) : dCall F u s = aE (u s) fun rs s' => reR s'.e (cr (F s'.w rs)) := by
  unfold dCall
  congr 1
  funext rs s'
  rw [← callEnd_cr]
  rfl
/-- a block's end as a call's end -/
def crT : Option Fl → Option CR
  | some (.nx s) => some (.ret (.sh .non) s.w)
  | some (.rt (.sh d) s) => some (.ret (.sh d) s.w)
  | some (.rt (.own d) s) => some (.ret (.own d) s.w)
  | some (.exc x w) => some (.exc x w)
  | _ => none
@[simp] theorem crT_nx (s : S) : crT (some (.nx s)) = some (.ret (.sh .non) s.w) := rfl
@[simp] theorem crT_sh (d : D) (s : S) : crT (some (.rt (.sh d) s)) = some (.ret (.sh d) s.w) := rfl
@[simp] theorem crT_own (d : D) (s : S) : crT (some (.rt (.own d) s)) = some (.ret (.own d) s.w) := rfl
@[simp] theorem crT_exc (x : Ex) (w : W) : crT (some (.exc x w)) = some (.exc x w) := rfl
theorem cr_runF (n : Nat) (t : TSf) (w : W) (rs : List Sl) : cr (runF n t w rs) = crT (t ⟨w, rs ++ List.replicate (n - rs.length) .no⟩) := by
  unfold runF
  cases h : t ⟨w, rs ++ List.replicate (n - rs.length) .no⟩ with
  | none => rfl
  | some f =>
    cases f with
    | rt r s => cases r <;> rfl
    | _ => rfl
theorem cr_of {o : Option Fl} {d : D} {w : W} {e : List Sl} (h : o = some (.rt (.sh d) ⟨w, e⟩)) : cr o = some (.ret (.sh d) w) := by rw [h]; rfl
/-- a slot that holds nothing known or data -/
def So : Option D → Sl
  | none => .no
  | some d => .sh d
@[simp] theorem So_unl (x : Option D) : (So x).unl = So x := by cases x <;> rfl
@[simp] theorem So_frz (x : Option D) : (So x).frz = So x := by cases x <;> rfl
theorem So_s (d : D) : So (some d) = .sh d := rfl
theorem So_n : So none = .no := rfl
theorem So_none : Sl.no = So none := rfl
theorem So_some (d : D) : Sl.sh d = So (some d) := rfl
/-- range's turns -/
def rgI (n : Int) (s : S) : Option RI := if -4611686018427387904 ≤ n then (rng1 n).map fun l => .it l true s else none
theorem iRg1_rg (u : TAf) (s : S) : iRg1 u s = aI (u s) fun xs s => match xs with
  | [.sh (.int n)] => rgI n s
  | _ => none := rfl
theorem rgI_eq {n : Int} {k : Nat} {s : S} (e : n = (k : Int)) (h : k < 4611686018427387904) : rgI n s = some (.it ((List.range k).map fun i => .int (i : Nat)) true s) := by
  have h1 : -4611686018427387904 ≤ n := by omega
  have h2 : n < 4611686018427387904 := by omega
  have h3 : n.toNat = k := by omega
  unfold rgI
  rw [if_pos h1]
  unfold rng1
  rw [if_pos h2, h3, Option.map_some]
/-! ### one combinator at a time -/
theorem dCons_eq {t : TEf} {u : TAf} {s s1 s2 : S} {r : Sl} {xs : List Sl} (h : t s = some (.val r s1)) (h2 : u s1 = some (.vals xs s2)) : dCons t u s = some (.vals (r.weak :: xs) s2) := by
  unfold dCons
  rw [h]
  show aA (u s1) _ = _
  rw [h2]
  rfl
theorem dCons1_eq {t : TEf} {s s1 : S} {r : Sl} (h : t s = some (.val r s1)) : dCons t dNil s = some (.vals [r.weak] s1) := dCons_eq h rfl
theorem dBM_eq {ty : D → Bool} {g : GL} {t : TEf} {u : TAf} {s s1 s2 : S} {x r : Sl} {d : D} {xs : List Sl} {ds : List D} (h : t s = some (.val x s1)) (hd : x.dat = some d) (hty : ty d = true) (h2 : u s1 = some (.vals xs s2)) (hx : datAll xs = some ds) (hg : g (d :: ds) = some r) : dBM ty g t u s = some (.val r s2) := by
  unfold dBM
  rw [h]
  show (match x.dat with | some d => _ | none => _) = _
  rw [hd]
  simp only [hty, if_true, h2, aE_val, appL, datAll]
  first
    | (simp [hd, hx, hg]; done)
    | (simp [hx, hg, Sl.dat]; done)
theorem dCB_eq {g : GL} {u : TAf} {s s2 : S} {xs : List Sl} {ds : List D} {r : Sl} (h2 : u s = some (.vals xs s2)) (hx : datAll xs = some ds) (hg : g ds = some r) : dCB g u s = some (.val r s2) := by
  unfold dCB
  rw [h2]
  simp only [aE_val, appL, hx, hg]
  rfl
theorem dCall_eq {F : FN} {u : TAf} {s s2 : S} {xs : List Sl} {r : Sl} {w' : W} (h2 : u s = some (.vals xs s2)) (hc : cr (F s2.w xs) = some (.ret r w')) : dCall F u s = some (.val r ⟨w', s2.e⟩) := by
  rw [dCall_cr, h2]
  show reR s2.e (cr (F s2.w xs)) = _
  rw [hc]
  rfl
theorem dOp_eq {g : G2} {t u : TEf} {s s1 s2 : S} {x y r : Sl} {a b : D} (h : t s = some (.val x s1)) (h2 : u s1 = some (.val y s2)) (hx : x.dat = some a) (hy : y.dat = some b) (hg : g a b = some r) : dOp g t u s = some (.val r s2) := by
  unfold dOp
  rw [h, eB_val, h2, eB_val]
  unfold app2
  rw [hx, hy]
  simp only [hg]
  rfl
theorem dSet_eq {i : Nat} {t : TEf} {s s1 : S} {r : Sl} (h : t s = some (.val r s1)) (hi : i < s1.e.length) : dSet i t s = some (.nx ⟨s1.w, (settle r s1.e).set i r⟩) := by
  unfold dSet
  rw [h, eS_val, if_pos hi]
theorem dRet_eq {t : TEf} {s s1 : S} {r : Sl} (h : t s = some (.val r s1)) : dRet t s = some (.rt r s1) := by
  unfold dRet
  rw [h, eS_val]
theorem dIfS_true {t : TTf} {a b : TSf} {s s1 : S} (h : t s = some (.tv true s1)) : dIfS t a b s = a ⟨s1.w, calmE s1.e⟩ := by
  unfold dIfS
  rw [h, tS_val, if_pos rfl]
theorem dIfS_false {t : TTf} {a b : TSf} {s s1 : S} (h : t s = some (.tv false s1)) : dIfS t a b s = b ⟨s1.w, calmE s1.e⟩ := by
  unfold dIfS
  rw [h, tS_val, if_neg (by decide)]
theorem dSeq_exc {t u : TSf} {s : S} {x : Ex} {w : W} (h : t s = some (.exc x w)) : dSeq t u s = some (.exc x w) := by
  unfold dSeq
  rw [h]
  rfl
theorem dSeq_bk {t u : TSf} {s s' : S} (h : t s = some (.bk s')) : dSeq t u s = some (.bk s') := by
  unfold dSeq
  rw [h]
  rfl
/-! ### states without owned data -/
def Stab (e : List Sl) : Prop := ∀ x ∈ e, x.unl = x ∧ x.frz = x
theorem Stab.nil : Stab [] := fun x h => by cases h
theorem Stab.cons {x : Sl} {e : List Sl} (h : x.unl = x ∧ x.frz = x) (t : Stab e) : Stab (x :: e) := fun y hy => by
  rcases List.mem_cons.mp hy with rfl | hy
  · exact h
  · exact t y hy
theorem Stab.so {x : Option D} {e : List Sl} (t : Stab e) : Stab (So x :: e) := .cons ⟨So_unl x, So_frz x⟩ t
theorem Stab.sh {d : D} {e : List Sl} (t : Stab e) : Stab (.sh d :: e) := .cons ⟨rfl, rfl⟩ t
theorem Stab.dr {e : List Sl} (t : Stab e) : Stab (.dr :: e) := .cons ⟨rfl, rfl⟩ t
theorem Stab.no {e : List Sl} (t : Stab e) : Stab (.no :: e) := .cons ⟨rfl, rfl⟩ t
theorem Stab.set {e : List Sl} (h : Stab e) {i : Nat} {d : D} : Stab (e.set i (.sh d)) := fun y hy => by
  rcases List.mem_or_eq_of_mem_set hy with hy | rfl
  · exact h y hy
  · exact ⟨rfl, rfl⟩
theorem Stab.settleB {e : List Sl} (h : Stab e) (c : Bool) : settleB c e = e := by
  unfold DL.settleB
  cases c with
  | true =>
    rw [if_pos rfl]
    rw [List.map_congr_left (g := id) fun x hx => (h x hx).1, List.map_id]
  | false =>
    rw [if_neg (by decide)]
    rw [List.map_congr_left (g := id) fun x hx => (h x hx).2, List.map_id]
theorem Stab.calm {e : List Sl} (h : Stab e) : calmE e = e := by
  unfold calmE settle
  exact h.settleB _
theorem dSet_st {i : Nat} {t : TEf} {s s1 : S} {r : Sl} (st : Stab s1.e) (h : t s = some (.val r s1)) (hi : i < s1.e.length) : dSet i t s = some (.nx ⟨s1.w, s1.e.set i r⟩) := by
  rw [dSet_eq h hi]
  unfold settle
  rw [st.settleB]
theorem dIfS_st_true {t : TTf} {a b : TSf} {s s1 : S} (st : Stab s1.e) (h : t s = some (.tv true s1)) : dIfS t a b s = a s1 := by
  rw [dIfS_true h, st.calm]
theorem dIfS_st_false {t : TTf} {a b : TSf} {s s1 : S} (st : Stab s1.e) (h : t s = some (.tv false s1)) : dIfS t a b s = b s1 := by
  rw [dIfS_false h, st.calm]
theorem dFor_st {ti : TIf} {asg : TGf} {body : TSf} {s s1 : S} {ds : List D} {c : Bool} (st : Stab s1.e) (h : ti s = some (.it ds c s1)) : dFor ti asg body s = forS asg body ds s1 := dFor_eq h (by rw [st.settleB])
/-! ### loops by a relation -/
/-- each turn goes on: a fold -/
theorem forS_rel {α σ : Type} {asg : TGf} {body : TSf} (enc : α → D) (step : σ → α → σ) (R : σ → S → Prop) : ∀ (l : List α) (c : σ) (s : S),
    (∀ a ∈ l, ∀ c s, R c s → ∃ s1 s2, asg (enc a) s = some s1 ∧ (body s1 = some (.nx s2) ∨ body s1 = some (.ct s2)) ∧ R (step c a) s2) →
    R c s → ∃ s', forS asg body (l.map enc) s = some (.nx s') ∧ R (l.foldl step c) s'
  | [], c, s, _, r => ⟨s, rfl, r⟩
  | a :: l, c, s, h, r => by
    obtain ⟨s1, s2, h1, h2, r2⟩ := h a List.mem_cons_self c s r
    obtain ⟨s', h3, r3⟩ := forS_rel enc step R l (step c a) s2 (fun x hx => h x (List.mem_cons_of_mem _ hx)) r2
    refine ⟨s', ?_, r3⟩
    rcases h2 with h2 | h2
    · rw [List.map_cons, forS_nx h1 h2, h3]
    · rw [List.map_cons, forS_ct h1 h2, h3]
/-- a comprehension whose turns are told by the item -/
theorem lcS_enc {α : Type} {asg : TGf} {tt : TTf} {te : TEf} {vs : List Nat} (enc : α → D) (P : α → Bool) (f : α → D) {s0 : S} : ∀ (l : List α) (acc : List D),
    (∀ a ∈ l, ((enc a).imm || noLck s0.e) = true ∧ ∃ s1 s2, asg (enc a) s0 = some s1 ∧ tt s1 = some (.tv (P a) s2) ∧ (P a = true → ∃ r s3, te s2 = some (.val r s3) ∧ r.dat = some (f a) ∧ (⟨s3.w, wipeE s3.e vs⟩ : S) = s0) ∧ (P a = false → (⟨s2.w, wipeE s2.e vs⟩ : S) = s0)) →
    acc.length + l.length ≤ 16777216 → lcS asg tt te vs (l.map enc) acc s0 = some (.done (acc ++ (l.filter P).map f) s0)
  | [], acc, _, _ => by simp [lcS]
  | a :: l, acc, h, hl => by
    obtain ⟨h0, s1, s2, h1, h2, h3, h4⟩ := h a List.mem_cons_self
    have rest := fun acc' hl' => lcS_enc enc P f l acc' (fun x hx => h x (List.mem_cons_of_mem _ hx)) hl'
    rw [List.length_cons] at hl
    rw [List.map_cons]
    unfold lcS
    rw [if_pos h0, h1]
    cases hp : P a with
    | true =>
      obtain ⟨r, s3, e1, e2, e3⟩ := h3 hp
      rw [hp] at h2
      simp only [h2, e1, e2]
      rw [if_pos (by omega), e3, rest _ (by rw [List.length_append, List.length_singleton]; omega), List.filter_cons_of_pos hp]
      simp
    | false =>
      rw [hp] at h2
      simp only [h2]
      rw [h4 hp, rest _ (by omega), List.filter_cons_of_neg (by rw [hp]; simp)]
end DL

end

section -- DL30
set_option Elab.async false
set_option linter.all false
set_option maxRecDepth 100000
set_option maxHeartbeats 2000000
/-! DL30: data that can be shown and compared. -/
namespace DL
open PySem PySem.Spec L2 StrLaws
/-- shown with at most n signs, k deep -/
structure RS (d : D) (n k : Nat) : Prop where
  ex : ∃ p, toPy d = some p ∧ p.showable = true ∧ p.canLay0 = true ∧ p.depth ≤ k ∧ p.shown.length ≤ n
structure RSA (l : List D) (n k : Nat) : Prop where
  ex : ∃ ps, toPyAll l = some ps ∧ PyData.showableAll ps = true ∧ PyData.canLayAll0 ps = true ∧ PyData.depthAll ps ≤ k ∧ ((PyData.shownAll ps).map (·.length)).sum + 2 * ps.length ≤ n
theorem RS.mono {d : D} {n m k j : Nat} (h : RS d n k) (h1 : n ≤ m) (h2 : k ≤ j) : RS d m j := by
  obtain ⟨p, a, b, c, e, f⟩ := h.ex
  exact ⟨p, a, b, c, by omega, by omega⟩
theorem RSA.mono {d : List D} {n m k j : Nat} (h : RSA d n k) (h1 : n ≤ m) (h2 : k ≤ j) : RSA d m j := by
  obtain ⟨p, a, b, c, e, f⟩ := h.ex
  exact ⟨p, a, b, c, by omega, by omega⟩
theorem rs_non : RS .non 4 0 := ⟨.none, by rw [toPy], rfl, rfl, Nat.le_refl _, Nat.le_refl _⟩
theorem rs_bl (b : Bool) : RS (.bl b) 5 0 := ⟨.bool b, by rw [toPy], rfl, rfl, Nat.le_refl _, by cases b <;> decide⟩
theorem rs_int {i : Int} {j : Nat} (hj : 0 < j) (hj2 : j ≤ 570) (h : i.natAbs < 10 ^ j) : RS (.int i) (j + 1) 0 := by
  refine ⟨.int i, by rw [toPy], ?_, rfl, Nat.le_refl _, ?_⟩
  · rw [PyData.showable]
    refine decide_eq_true ?_
    by_cases h0 : i.natAbs = 0
    · rw [h0]; decide
    · rw [Nat.log2_lt h0]
      have h1 : (10 : Nat) ^ j ≤ 16 ^ j := Nat.pow_le_pow_left (by decide) j
      have h2 : (16 : Nat) ^ j = 2 ^ (4 * j) := by rw [Nat.pow_mul]
      have h3 : (2 : Nat) ^ (4 * j) < 2 ^ 2281 := Nat.pow_lt_pow_right (by decide) (by omega)
      have h4 : (10 : Nat) ^ j ≤ 10 ^ 570 := Nat.pow_le_pow_right (by decide) hj2
      have h5 : (10 : Nat) ^ 570 < 2 ^ 1920 := by decide +kernel
      omega
  · have e := int_text_length_le10 hj h
    show (Str.ofString (toString i)).length ≤ j + 1
    rw [ofString_length]
    exact e
theorem rs_str {x : Str} (h : PyData.strOk x = true) : RS (.str x) (10 * x.cps.size + 2) 0 := by
  refine ⟨.str x, by rw [toPy], rfl, h, Nat.le_refl _, ?_⟩
  have hx : ∀ c ∈ x.cps.toList, c < 16 ^ 8 := fun c hc => by
    unfold PyData.strOk at h
    rw [Array.all_eq_true_iff_forall_mem] at h
    have := h c (Array.mem_toList_iff.mp hc)
    have := of_decide_eq_true this
    have e : (16 : Nat) ^ 8 = 4294967296 := by decide
    omega
  have e := reprText_len x hx
  rw [PyData.shown]
  have e2 : x.length = x.cps.size := rfl
  omega
theorem rsa_nil : RSA [] 0 0 := ⟨[], by rw [toPyAll], rfl, rfl, Nat.le_refl _, Nat.le_refl _⟩
theorem rsa_cons {d : D} {l : List D} {n m k : Nat} (h : RS d n k) (t : RSA l m k) : RSA (d :: l) (n + 2 + m) k := by
  obtain ⟨p, a, b, c, e, f⟩ := h.ex
  obtain ⟨ps, a2, b2, c2, e2, f2⟩ := t.ex
  refine ⟨p :: ps, by rw [toPyAll, a, a2], ?_, ?_, ?_, ?_⟩
  · rw [PyData.showableAll, b, b2]; rfl
  · rw [PyData.canLayAll0, c, c2]; rfl
  · rw [PyData.depthAll]; omega
  · rw [PyData.shownAll, List.map_cons, List.sum_cons, List.length_cons]; omega
theorem rsa_all {l : List D} {n k : Nat} (h : ∀ d ∈ l, RS d n k) : RSA l (l.length * (n + 2)) k := by
  induction l with
  | nil => exact (rsa_nil).mono (by simp) (by omega)
  | cons d l ih =>
    refine (rsa_cons (h d List.mem_cons_self) (ih fun x hx => h x (List.mem_cons_of_mem _ hx))).mono ?_ (Nat.le_refl _)
    rw [List.length_cons, Nat.add_mul]
    omega
theorem rs_tup {l : List D} {n k : Nat} (h : RSA l n k) : RS (.tup l) (n + 3) (k + 1) := by
  obtain ⟨ps, a, b, c, e, f⟩ := h.ex
  refine ⟨.tuple ps, by rw [toPy, a]; rfl, ?_, ?_, ?_, ?_⟩
  · rw [PyData.showable]; exact b
  · rw [PyData.canLay0]; exact c
  · rw [PyData.depth]; omega
  · rw [PyData.shown]
    have := tupleText_len_le (PyData.shownAll ps)
    have := PyData.shownAll_length ps
    omega
theorem rs_lst {l : List D} {n k : Nat} (h : RSA l n k) : RS (.lst l) (n + 3) (k + 1) := by
  obtain ⟨ps, a, b, c, e, f⟩ := h.ex
  refine ⟨.list ps, by rw [toPy, a]; rfl, ?_, ?_, ?_, ?_⟩
  · rw [PyData.showable]; exact b
  · rw [PyData.canLay0]; exact c
  · rw [PyData.depth]; omega
  · rw [PyData.shown]
    have := listText_len_le (PyData.shownAll ps)
    have := PyData.shownAll_length ps
    omega
/-- it can be shown -/
theorem RS.repr {d : D} {n k : Nat} (h : RS d n k) (hn : n ≤ 16777216) (hk : k ≤ 64) : ∃ x, reprD d = some x := by
  obtain ⟨p, a, b, c, e, f⟩ := h.ex
  refine ⟨p.shown, ?_⟩
  unfold reprD
  rw [a]
  have hd := PyData.hasDict_of_canLay p c
  have z : (p.showable && !p.hasDict && decide (p.depth ≤ 64) && decide (p.shown.length ≤ 16777216)) = true := by
    rw [b, hd, decide_eq_true (by omega : p.depth ≤ 64), decide_eq_true (by omega : p.shown.length ≤ 16777216)]; rfl
  simp only [z, if_true]
/-- it can be compared -/
theorem RS.sh {d : D} {n k : Nat} (h : RS d n k) (hk : k ≤ 64) : ∃ p, toPy d = some p ∧ SeqAt.shaped p = true := by
  obtain ⟨p, a, b, c, e, f⟩ := h.ex
  refine ⟨p, a, ?_⟩
  unfold SeqAt.shaped
  rw [c, decide_eq_true (by omega : p.depth ≤ 64)]; rfl
mutual
/-- no True, no False within -/
def D.noB : D → Bool
  | .bl _ => false
  | .tup l => noBAll l
  | .lst l => noBAll l
  | _ => true
def noBAll : List D → Bool
  | [] => true
  | d :: ds => d.noB && noBAll ds
end
mutual
theorem eqv_iff : ∀ {a b : D} {p q : PyData}, a.noB = true → b.noB = true → toPy a = some p → toPy b = some q → (PyData.eqv p q = true ↔ a = b) := by
  intro a b p q ha hb h1 h2
  cases a with
  | bl _ => simp [D.noB] at ha
  | dk _ => simp [toPy] at h1
  | dt _ => simp [toPy] at h1
  | raw _ => simp [toPy] at h1
  | fn _ _ _ _ _ => simp [toPy] at h1
  | exn0 _ => simp [toPy] at h1
  | exn1 _ _ _ => simp [toPy] at h1
  | non => 
    rw [toPy] at h1; cases h1
    cases b <;> (first | (rw [toPy] at h2; cases h2; simp [PyData.eqv]; done) | (rw [toPy] at h2; cases h : toPyAll _ <;> rw [h] at h2 <;> cases h2; simp [PyData.eqv]) | (simp [toPy] at h2; done))
  | int i =>
    rw [toPy] at h1; cases h1
    cases b <;> (first | (rw [toPy] at h2; cases h2; simp [PyData.eqv]; done) | (rw [toPy] at h2; cases h : toPyAll _ <;> rw [h] at h2 <;> cases h2; simp [PyData.eqv]) | (simp [D.noB] at hb; done) | (simp [toPy] at h2; done))
  | str i =>
    rw [toPy] at h1; cases h1
    cases b <;> (first | (rw [toPy] at h2; cases h2; simp [PyData.eqv]; done) | (rw [toPy] at h2; cases h : toPyAll _ <;> rw [h] at h2 <;> cases h2; simp [PyData.eqv]) | (simp [D.noB] at hb; done) | (simp [toPy] at h2; done))
  | tup l =>
    rw [toPy] at h1
    cases g : toPyAll l with
    | none => rw [g] at h1; cases h1
    | some ps =>
      rw [g] at h1; cases h1
      cases b with
      | tup m =>
        rw [toPy] at h2
        cases g2 : toPyAll m with
        | none => rw [g2] at h2; cases h2
        | some qs =>
          rw [g2] at h2; cases h2
          rw [PyData.eqv, eqvAll_iff (by simpa [D.noB] using ha) (by simpa [D.noB] using hb) g g2]
          simp
      | lst m =>
        rw [toPy] at h2
        cases g2 : toPyAll m with
        | none => rw [g2] at h2; cases h2
        | some qs => rw [g2] at h2; cases h2; simp [PyData.eqv]
      | _ => (first | (rw [toPy] at h2; cases h2; simp [PyData.eqv]; done) | (simp [toPy] at h2; done))
  | lst l =>
    rw [toPy] at h1
    cases g : toPyAll l with
    | none => rw [g] at h1; cases h1
    | some ps =>
      rw [g] at h1; cases h1
      cases b with
      | lst m =>
        rw [toPy] at h2
        cases g2 : toPyAll m with
        | none => rw [g2] at h2; cases h2
        | some qs =>
          rw [g2] at h2; cases h2
          rw [PyData.eqv, eqvAll_iff (by simpa [D.noB] using ha) (by simpa [D.noB] using hb) g g2]
          simp
      | tup m =>
        rw [toPy] at h2
        cases g2 : toPyAll m with
        | none => rw [g2] at h2; cases h2
        | some qs => rw [g2] at h2; cases h2; simp [PyData.eqv]
      | _ => (first | (rw [toPy] at h2; cases h2; simp [PyData.eqv]; done) | (simp [toPy] at h2; done))
theorem eqvAll_iff : ∀ {a b : List D} {p q : List PyData}, noBAll a = true → noBAll b = true → toPyAll a = some p → toPyAll b = some q → (PyData.eqvAll p q = true ↔ a = b)
  | [], [], p, q, _, _, h1, h2 => by
    rw [toPyAll] at h1; rw [toPyAll] at h2; cases h1; cases h2; simp [PyData.eqvAll]
  | [], e :: es, p, q, _, _, h1, h2 => by
    rw [toPyAll] at h1; rw [toPyAll] at h2; cases h1
    cases g1 : toPy e with
    | none => rw [g1] at h2; cases h2
    | some x =>
      cases g2 : toPyAll es with
      | none => rw [g1, g2] at h2; cases h2
      | some xs => rw [g1, g2] at h2; cases h2; simp [PyData.eqvAll]
  | e :: es, [], p, q, _, _, h1, h2 => by
    rw [toPyAll] at h1; rw [toPyAll] at h2; cases h2
    cases g1 : toPy e with
    | none => rw [g1] at h1; cases h1
    | some x =>
      cases g2 : toPyAll es with
      | none => rw [g1, g2] at h1; cases h1
      | some xs => rw [g1, g2] at h1; cases h1; simp [PyData.eqvAll]
  | a :: as, b :: bs, p, q, ha, hb, h1, h2 => by
    rw [toPyAll] at h1; rw [toPyAll] at h2
    rw [noBAll, Bool.and_eq_true] at ha hb
    cases g1 : toPy a with
    | none => rw [g1] at h1; cases h1
    | some x =>
      cases g2 : toPyAll as with
      | none => rw [g1, g2] at h1; cases h1
      | some xs =>
        rw [g1, g2] at h1; cases h1
        cases g3 : toPy b with
        | none => rw [g3] at h2; cases h2
        | some y =>
          cases g4 : toPyAll bs with
          | none => rw [g3, g4] at h2; cases h2
          | some ys =>
            rw [g3, g4] at h2; cases h2
            rw [PyData.eqvAll, Bool.and_eq_true, eqv_iff ha.1 hb.1 g1 g3, eqvAll_iff ha.2 hb.2 g2 g4]
            simp
end
/-- lists and tuples compared -/
theorem eqD_rs {a b : D} {n m k j : Nat} (ra : RS a n k) (rb : RS b m j) (hk : k ≤ 64) (hj : j ≤ 64) (na : a.noB = true) (nb : b.noB = true) (hs : dV a = none ∨ dV b = none) : ∃ c, eqD a b = some c ∧ (c = true ↔ a = b) := by
  obtain ⟨p, e1, s1⟩ := ra.sh hk
  obtain ⟨q, e2, s2⟩ := rb.sh hj
  refine ⟨PyData.eqv p q, ?_, eqv_iff na nb e1 e2⟩
  unfold eqD
  rw [e1, e2]
  have z : (SeqAt.shaped p && SeqAt.shaped q) = true := by rw [s1, s2]; rfl
  rcases hs with h | h
  · rw [h]; simp only [z, if_true]
  · rw [h]; cases dV a <;> simp only [z, if_true]
theorem eqD_self {a : D} {n k : Nat} (ra : RS a n k) (hk : k ≤ 64) (hs : dV a = none) : eqD a a = some true := by
  obtain ⟨p, e1, b, c, e, f⟩ := ra.ex
  obtain ⟨p', e2, s1⟩ := ra.sh hk
  rw [e1] at e2
  cases e2
  unfold eqD
  rw [e1, hs]
  simp only [s1, Bool.and_self, if_true]
  rw [SeqAt.eqv_refl p c]
theorem eqD_enc {α : Type} [DecidableEq α] (enc : α → D) (inj : ∀ a b, enc a = enc b → a = b) {a b : α} {n m k j : Nat} (ra : RS (enc a) n k) (rb : RS (enc b) m j) (hk : k ≤ 64) (hj : j ≤ 64) (na : (enc a).noB = true) (nb : (enc b).noB = true) (hs : dV (enc a) = none ∨ dV (enc b) = none) : eqD (enc a) (enc b) = some (decide (a = b)) := by
  obtain ⟨c, e, h⟩ := eqD_rs ra rb hk hj na nb hs
  rw [e]
  congr 1
  by_cases z : a = b
  · rw [decide_eq_true z]; exact h.mpr (by rw [z])
  · rw [decide_eq_false z]
    cases c with
    | false => rfl
    | true => exact absurd (inj _ _ (h.mp rfl)) z
theorem strOk_of {l : List Nat} (h : ∀ c ∈ l, c < 0x110000) : PyData.strOk ⟨l.toArray⟩ = true := by
  unfold PyData.strOk
  rw [Array.all_eq_true_iff_forall_mem]
  intro c hc
  exact decide_eq_true (h c (by simpa using hc))
end DL

end

section -- K11gen
set_option Elab.async false
set_option linter.all false
set_option maxRecDepth 100000
set_option maxHeartbeats 4000000
/-! the walk of looksfit_k11_whole_tokens, printed by gen.py -/
namespace Gk11
open PySem PySem.Spec L2 DL
open PyProof.Rows (envOfC)
def top (i : Nat) : Stmt := PySem.Challenge.pw_looksfit_k11_whole_tokens.main.body.getD i (.Pass ⟨0, 0, 0, 0⟩)
/-! ### need_few -/
abbrev s_need_few : Stmt := top 5
theorem sc_need_few : FnScope ["number", "most"] ["number", "most"] (defScope s_need_few) := ⟨rfl, rfl, rfl, by decide +kernel, rfl, by decide +kernel, by decide +kernel⟩
/-! ### row_end -/
abbrev s_row_end : Stmt := top 13
theorem sc_row_end : FnScope ["text", "at", "signs"] ["text", "at", "signs"] (defScope s_row_end) := ⟨rfl, rfl, rfl, by decide +kernel, rfl, by decide +kernel, by decide +kernel⟩
/-! ### tokens_told -/
abbrev s_tokens_told : Stmt := top 14
theorem sc_tokens_told : FnScope ["text", "found", "at", "end"] ["text"] (defScope s_tokens_told) := ⟨rfl, rfl, rfl, by decide +kernel, rfl, by decide +kernel, by decide +kernel⟩
/-! ### need_text -/
abbrev s_need_text : Stmt := top 15
theorem sc_need_text : FnScope ["text"] ["text"] (defScope s_need_text) := ⟨rfl, rfl, rfl, by decide +kernel, rfl, by decide +kernel, by decide +kernel⟩
/-! ### tokens_of -/
abbrev s_tokens_of : Stmt := top 16
theorem sc_tokens_of : FnScope ["text", "found"] ["text"] (defScope s_tokens_of) := ⟨rfl, rfl, rfl, by decide +kernel, rfl, by decide +kernel, by decide +kernel⟩
/-! ### _law_begun -/
abbrev s__law_begun : Stmt := top 18
theorem sc__law_begun : FnScope ["script", "large", "grain"] ["script"] (defScope s__law_begun) := ⟨rfl, rfl, rfl, by decide +kernel, rfl, by decide +kernel, by decide +kernel⟩
/-! ### _law_mixed -/
abbrev s__law_mixed : Stmt := top 19
theorem sc__law_mixed : FnScope ["draw", "turn", "found", "prime", "blend", "grain"] ["draw"] (defScope s__law_mixed) := ⟨rfl, rfl, rfl, by decide +kernel, rfl, by decide +kernel, by decide +kernel⟩
/-! ### _law_take -/
abbrev s__law_take : Stmt := top 20
theorem sc__law_take : FnScope ["draw", "high", "found"] ["draw", "high"] (defScope s__law_take) := ⟨rfl, rfl, rfl, by decide +kernel, rfl, by decide +kernel, by decide +kernel⟩
/-! ### _law_pick -/
abbrev s__law_pick : Stmt := top 21
theorem sc__law_pick : FnScope ["draw", "some"] ["draw", "some"] (defScope s__law_pick) := ⟨rfl, rfl, rfl, by decide +kernel, rfl, by decide +kernel, by decide +kernel⟩
/-! ### _law_caught -/
abbrev s__law_caught : Stmt := top 22
theorem sc__law_caught : FnScope ["work", "caught", "error"] ["work"] (defScope s__law_caught) := ⟨rfl, rfl, rfl, by decide +kernel, rfl, by decide +kernel, by decide +kernel⟩
/-! ### _law_same -/
abbrev s__law_same : Stmt := top 23
theorem sc__law_same : FnScope ["thing", "due"] ["thing", "due"] (defScope s__law_same) := ⟨rfl, rfl, rfl, by decide +kernel, rfl, by decide +kernel, by decide +kernel⟩
/-! ### _law_is_bad_at -/
abbrev s__law_is_bad_at : Stmt := top 24
theorem sc__law_is_bad_at : FnScope ["work", "at", "error"] ["work", "at"] (defScope s__law_is_bad_at) := ⟨rfl, rfl, rfl, by decide +kernel, rfl, by decide +kernel, by decide +kernel⟩
/-! ### _law_is_too_many -/
abbrev s__law_is_too_many : Stmt := top 25
theorem sc__law_is_too_many : FnScope ["work", "most", "error"] ["work", "most"] (defScope s__law_is_too_many) := ⟨rfl, rfl, rfl, by decide +kernel, rfl, by decide +kernel, by decide +kernel⟩
/-! ### _law_scanned -/
abbrev s__law_scanned : Stmt := top 26
theorem sc__law_scanned : FnScope ["text", "found", "at", "lap", "sign", "end", "lot"] ["text"] (defScope s__law_scanned) := ⟨rfl, rfl, rfl, by decide +kernel, rfl, by decide +kernel, by decide +kernel⟩
/-! ### _law_spread -/
abbrev s__law_spread : Stmt := top 27
theorem sc__law_spread : FnScope ["draw", "tokens", "found", "last", "token", "is_tight"] ["draw", "tokens"] (defScope s__law_spread) := ⟨rfl, rfl, rfl, by decide +kernel, rfl, by decide +kernel, by decide +kernel⟩
/-! ### _law_drawn_tokens -/
abbrev s__law_drawn_tokens : Stmt := top 28
theorem sc__law_drawn_tokens : FnScope ["draw", "found", "lap", "way", "size", "step"] ["draw"] (defScope s__law_drawn_tokens) := ⟨rfl, rfl, rfl, by decide +kernel, rfl, by decide +kernel, by decide +kernel⟩
/-! ### law -/
abbrev s_law : Stmt := top 29
theorem sc_law : FnScope ["script", "draw", "turn", "tokens", "text", "due", "at", "plain", "moved", "bad", "bent", "long", "token", "one", "place"] ["script"] (defScope s_law) := ⟨rfl, rfl, rfl, by decide +kernel, rfl, by decide +kernel, by decide +kernel⟩
structure Tops (P : Program) (K : PySem.W.Frag) (mg : Str → Option Value) where
  fd_need_few : FuncData
  F_need_few : FnP K "need_few" s_need_few (He.ga K "need_few") fd_need_few
  m_need_few : mg "need_few" = some (.ref (He.ga K "need_few"))
  fd_row_end : FuncData
  F_row_end : FnP K "row_end" s_row_end (He.ga K "row_end") fd_row_end
  m_row_end : mg "row_end" = some (.ref (He.ga K "row_end"))
  fd_tokens_told : FuncData
  F_tokens_told : FnP K "tokens_told" s_tokens_told (He.ga K "tokens_told") fd_tokens_told
  m_tokens_told : mg "tokens_told" = some (.ref (He.ga K "tokens_told"))
  fd_need_text : FuncData
  F_need_text : FnP K "need_text" s_need_text (He.ga K "need_text") fd_need_text
  m_need_text : mg "need_text" = some (.ref (He.ga K "need_text"))
  fd_tokens_of : FuncData
  F_tokens_of : FnP K "tokens_of" s_tokens_of (He.ga K "tokens_of") fd_tokens_of
  m_tokens_of : mg "tokens_of" = some (.ref (He.ga K "tokens_of"))
  fd__law_begun : FuncData
  F__law_begun : FnP K "_law_begun" s__law_begun (He.ga K "_law_begun") fd__law_begun
  m__law_begun : mg "_law_begun" = some (.ref (He.ga K "_law_begun"))
  fd__law_mixed : FuncData
  F__law_mixed : FnP K "_law_mixed" s__law_mixed (He.ga K "_law_mixed") fd__law_mixed
  m__law_mixed : mg "_law_mixed" = some (.ref (He.ga K "_law_mixed"))
  fd__law_take : FuncData
  F__law_take : FnP K "_law_take" s__law_take (He.ga K "_law_take") fd__law_take
  m__law_take : mg "_law_take" = some (.ref (He.ga K "_law_take"))
  fd__law_pick : FuncData
  F__law_pick : FnP K "_law_pick" s__law_pick (He.ga K "_law_pick") fd__law_pick
  m__law_pick : mg "_law_pick" = some (.ref (He.ga K "_law_pick"))
  fd__law_caught : FuncData
  F__law_caught : FnP K "_law_caught" s__law_caught (He.ga K "_law_caught") fd__law_caught
  m__law_caught : mg "_law_caught" = some (.ref (He.ga K "_law_caught"))
  fd__law_same : FuncData
  F__law_same : FnP K "_law_same" s__law_same (He.ga K "_law_same") fd__law_same
  m__law_same : mg "_law_same" = some (.ref (He.ga K "_law_same"))
  fd__law_is_bad_at : FuncData
  F__law_is_bad_at : FnP K "_law_is_bad_at" s__law_is_bad_at (He.ga K "_law_is_bad_at") fd__law_is_bad_at
  m__law_is_bad_at : mg "_law_is_bad_at" = some (.ref (He.ga K "_law_is_bad_at"))
  fd__law_is_too_many : FuncData
  F__law_is_too_many : FnP K "_law_is_too_many" s__law_is_too_many (He.ga K "_law_is_too_many") fd__law_is_too_many
  m__law_is_too_many : mg "_law_is_too_many" = some (.ref (He.ga K "_law_is_too_many"))
  fd__law_scanned : FuncData
  F__law_scanned : FnP K "_law_scanned" s__law_scanned (He.ga K "_law_scanned") fd__law_scanned
  m__law_scanned : mg "_law_scanned" = some (.ref (He.ga K "_law_scanned"))
  fd__law_spread : FuncData
  F__law_spread : FnP K "_law_spread" s__law_spread (He.ga K "_law_spread") fd__law_spread
  m__law_spread : mg "_law_spread" = some (.ref (He.ga K "_law_spread"))
  fd__law_drawn_tokens : FuncData
  F__law_drawn_tokens : FnP K "_law_drawn_tokens" s__law_drawn_tokens (He.ga K "_law_drawn_tokens") fd__law_drawn_tokens
  m__law_drawn_tokens : mg "_law_drawn_tokens" = some (.ref (He.ga K "_law_drawn_tokens"))
  fd_law : FuncData
  F_law : FnP K "law" s_law (He.ga K "law") fd_law
  m_law : mg "law" = some (.ref (He.ga K "law"))
  b_abs : mg "abs" = none
  b_int : mg "int" = none
  b_isinstance : mg "isinstance" = none
  b_len : mg "len" = none
  b_list : mg "list" = none
  b_min : mg "min" = none
  b_range : mg "range" = none
  b_repr : mg "repr" = none
  b_str : mg "str" = none
  b_tuple : mg "tuple" = none
  c_BLANKS : ∃ t, mg "BLANKS" = some (.str " \n" t)
  c_FIGURES : ∃ t, mg "FIGURES" = some (.str "0123456789" t)
  c_LETTERS : ∃ t, mg "LETTERS" = some (.str "abcdefghijklmnopqrstuvwxyz" t)
  c_MOST_SIGNS : ∃ t, mg "MOST_SIGNS" = some (.int 100000 t)
  c_NO_TOKEN : ∃ t, mg "NO_TOKEN" = some (.str "?" t)
  c_SIGNS : ∃ t, mg "SIGNS" = some (.str ",;:/-" t)
  m_LookError : mg "LookError" = some (.ref (He.ga K "LookError"))
  m_TooMany : mg "TooMany" = some (.ref (He.ga K "TooMany"))
  cc_TooMany : Addr
  cda_TooMany : Addr
  s_TooMany : SupT K P (He.ga K "TooMany") (He.ma K (He.ga K "TooMany") "__init__") cc_TooMany cda_TooMany "TooMany.__init__" "most" "more than can be worked out"
  m_BadText : mg "BadText" = some (.ref (He.ga K "BadText"))
  cc_BadText : Addr
  cda_BadText : Addr
  s_BadText : SupT K P (He.ga K "BadText") (He.ma K (He.ga K "BadText") "__init__") cc_BadText cda_BadText "BadText.__init__" "at" "a text is wrong"
section
variable {P : Program} {w : World} {K : PySem.W.Frag} {mg : Str → Option Value} {base : Heap}
theorem bind_need_few (T : Tops P K mg) : Binds K T.fd_need_few ["number", "most"] [] := T.F_need_few.bindsN fun _ _ _ _ _ _ us hl => match us, hl with | [_, _], _ => rfl
noncomputable def t_need_few (K : PySem.W.Frag) : TSf := (dIfS (dTest (dOp gGt (dVar 0) (dVar 1))) (dRaise (He.ga K "TooMany") "most" (dCons (dVar 1) dNil)) dNext)
noncomputable def fn_need_few (K : PySem.W.Frag) : FN := runF 2 (t_need_few K)
theorem ok_need_few (T : Tops P K mg) : FnG P w K mg base 1 (He.ga K "need_few") T.fd_need_few ["number", "most"] (spF K 2 (fn_need_few K)) :=
  fnG_ok T.F_need_few sc_need_few (by decide) fun cdv A fs s H E hr =>
    (show DSs _ E (defBody s_need_few) (t_need_few K) from (dss_one (ds_if (dt_cmp op_gt ok_gt (de_var 0) (de_var 1) (by rfl)) (dss_one (ds_raise rfl (T.s_TooMany) T.m_TooMany hr (takes_of rfl rfl rfl rfl) (da_cons (de_var 1) da_nil) (by rfl))) dss_nil)))
theorem bind_row_end (T : Tops P K mg) : Binds K T.fd_row_end ["text", "at", "signs"] [] := T.F_row_end.bindsN fun _ _ _ _ _ _ us hl => match us, hl with | [_, _, _], _ => rfl
noncomputable def t_row_end : TSf := (dSeq (whileS (dAnd (dTest (dOp gLt (dVar 1) (dCB gLen (dCons (dVar 0) dNil)))) (dTest (dOp gIn (dOp gIx (dVar 0) (dVar 1)) (dVar 2)))) (dAugI 1 (fun i j => i + j) (dC (.int 1))))
    (dRet (dVar 1)))
noncomputable def fn_row_end : FN := runF 3 (t_row_end)
theorem ok_row_end (T : Tops P K mg) : FnG P w K mg base 1 (He.ga K "row_end") T.fd_row_end ["text", "at", "signs"] (spF K 3 (fn_row_end)) :=
  fnG_ok T.F_row_end sc_row_end (by decide) fun cdv A fs s H E hr =>
    (show DSs _ E (defBody s_row_end) (t_row_end) from (dss_cons (ds_while (passes_of rfl) ((dw_and (dt_cmp op_lt ok_lt (de_var 1) (de_callB DL.call_len ok_len (by rfl) T.b_len (by decide +kernel) (da_cons (de_var 0) da_nil)) (by rfl)) (dw_and1 (dt_cmp op_inS ok_in (de_ix (de_var 0) (de_var 1)) (de_var 2) (by rfl))))).dt (dss_one (ds_augI (i := 1) sc_row_end.nd rfl (Or.inl rfl) ip_add de_int)))
    (dss_one (ds_ret (de_var 1)))))
theorem bind_tokens_told (T : Tops P K mg) : Binds K T.fd_tokens_told ["text"] [] := T.F_tokens_told.bindsN fun _ _ _ _ _ _ us hl => match us, hl with | [_], _ => rfl
noncomputable def t_tokens_told : TSf := (dSeq (dPar 1 2 (dLst dNil) (dC (.int 0)))
    (dSeq (whileS (dTest (dOp gLt (dVar 2) (dCB gLen (dCons (dVar 0) dNil)))) (dSeq (dIfS (dTest (dOp gIn (dOp gIx (dVar 0) (dVar 2)) (dC (.str " \n")))) (dSeq (dAugI 2 (fun i j => i + j) (dC (.int 1)))
    dCont) dNext)
    (dSeq (dSet 3 (dOp gAdd (dVar 2) (dC (.int 1))))
    (dSeq (dIfS (dTest (dOp gIn (dOp gIx (dVar 0) (dVar 2)) (dC (.str "abcdefghijklmnopqrstuvwxyz")))) (dSet 3 (dCall (fn_row_end) (dCons (dVar 0) (dCons (dVar 2) (dCons (dC (.str "abcdefghijklmnopqrstuvwxyz")) dNil))))) (dIfS (dTest (dOp gIn (dOp gIx (dVar 0) (dVar 2)) (dC (.str "0123456789")))) (dSet 3 (dCall (fn_row_end) (dCons (dVar 0) (dCons (dVar 2) (dCons (dC (.str "0123456789")) dNil))))) (dIfS (dTest (dOp gNotIn (dOp gIx (dVar 0) (dVar 2)) (dC (.str ",;:/-")))) (dSeq (dApp 1 (dTup (dCons (dC (.str "?")) (dCons (dVar 2) dNil))))
    (dRet (dVar 1))) dNext)))
    (dSeq (dApp 1 (dTup (dCons (dCutLH (dVar 0) (dVar 2) (dVar 3)) (dCons (dVar 2) dNil))))
    (dSet 2 (dVar 3)))))))
    (dRet (dVar 1))))
noncomputable def fn_tokens_told : FN := runF 4 (t_tokens_told)
theorem ok_tokens_told (T : Tops P K mg) : FnG P w K mg base 2 (He.ga K "tokens_told") T.fd_tokens_told ["text"] (spF K 1 (fn_tokens_told)) :=
  fnG_ok T.F_tokens_told sc_tokens_told (by decide) fun cdv A fs s H E hr =>
    (show DSs _ E (defBody s_tokens_told) (t_tokens_told) from (dss_cons (ds_par (i := 1) (j := 2) rfl sc_tokens_told.nd rfl rfl (by decide) rfl rfl (de_lst da_nil) de_int (by rfl))
    (dss_cons (ds_while (passes_of rfl) (dt_cmp op_lt ok_lt (de_var 2) (de_callB DL.call_len ok_len (by rfl) T.b_len (by decide +kernel) (da_cons (de_var 0) da_nil)) (by rfl)) (dss_cons (ds_if (dt_cmp op_inS ok_in (de_ix (de_var 0) (de_var 2)) (de_gstr (by rfl) T.c_BLANKS) (by rfl)) (dss_cons (ds_augI (i := 2) sc_tokens_told.nd rfl (Or.inl rfl) ip_add de_int)
    (dss_one ds_continue)) dss_nil)
    (dss_cons (ds_set (i := 3) sc_tokens_told.nd rfl (Or.inl rfl) (de_op op_addAll ok_add (de_var 2) de_int))
    (dss_cons (ds_if (dt_cmp op_inS ok_in (de_ix (de_var 0) (de_var 2)) (de_gstr (by rfl) T.c_LETTERS) (by rfl)) (dss_one (ds_set (i := 3) sc_tokens_told.nd rfl (Or.inl rfl) (de_call ((ok_row_end T).mono (by decide)) hr (by rfl) T.m_row_end T.F_row_end.kp (bind_row_end T) (takes_of rfl rfl rfl rfl) (da_cons (de_var 0) (da_cons (de_var 2) (da_cons (de_gstr (by rfl) T.c_LETTERS) da_nil))) (ALen.cons (ALen.cons (ALen.cons ALen.nil)))))) (dss_one (ds_if (dt_cmp op_inS ok_in (de_ix (de_var 0) (de_var 2)) (de_gstr (by rfl) T.c_FIGURES) (by rfl)) (dss_one (ds_set (i := 3) sc_tokens_told.nd rfl (Or.inl rfl) (de_call ((ok_row_end T).mono (by decide)) hr (by rfl) T.m_row_end T.F_row_end.kp (bind_row_end T) (takes_of rfl rfl rfl rfl) (da_cons (de_var 0) (da_cons (de_var 2) (da_cons (de_gstr (by rfl) T.c_FIGURES) da_nil))) (ALen.cons (ALen.cons (ALen.cons ALen.nil)))))) (dss_one (ds_if (dt_cmp op_notInS ok_notIn (de_ix (de_var 0) (de_var 2)) (de_gstr (by rfl) T.c_SIGNS) (by rfl)) (dss_cons (ds_append (i := 1) (by rfl) (by first | exact Or.inl rfl | exact Or.inr (Or.inl rfl) | exact Or.inr (Or.inr rfl)) (de_tup (da_cons (de_gstr (by rfl) T.c_NO_TOKEN) (da_cons (de_var 2) da_nil))))
    (dss_one (ds_ret (de_var 1)))) dss_nil)))))
    (dss_cons (ds_append (i := 1) (by rfl) (by first | exact Or.inl rfl | exact Or.inr (Or.inl rfl) | exact Or.inr (Or.inr rfl)) (de_tup (da_cons (de_cutLH (de_var 0) (de_var 2) (de_var 3)) (da_cons (de_var 2) da_nil))))
    (dss_one (ds_set (i := 2) sc_tokens_told.nd rfl (Or.inl rfl) (de_var 3))))))))
    (dss_one (ds_ret (de_var 1))))))
theorem bind_need_text (T : Tops P K mg) : Binds K T.fd_need_text ["text"] [] := T.F_need_text.bindsN fun _ _ _ _ _ _ us hl => match us, hl with | [_], _ => rfl
noncomputable def t_need_text (K : PySem.W.Frag) : TSf := (dSeq (dIfS (dNot (dTest (dCB gIsi (dCons (dVar 0) (dCons (dC (.raw (.ty "str"))) dNil))))) (dRaise (He.ga K "BadText") "at" (dCons (dC (.int 0)) dNil)) dNext)
    (dExpr (dCall (fn_need_few K) (dCons (dCB gLen (dCons (dVar 0) dNil)) (dCons (dC (.int 100000)) dNil)))))
noncomputable def fn_need_text (K : PySem.W.Frag) : FN := runF 1 (t_need_text K)
theorem ok_need_text (T : Tops P K mg) : FnG P w K mg base 2 (He.ga K "need_text") T.fd_need_text ["text"] (spF K 1 (fn_need_text K)) :=
  fnG_ok T.F_need_text sc_need_text (by decide) fun cdv A fs s H E hr =>
    (show DSs _ E (defBody s_need_text) (t_need_text K) from (dss_cons (ds_if (dt_not (dt_val (de_callB DL.call_isiA ok_isi (by rfl) T.b_isinstance (by decide +kernel) (da_cons (de_var 0) (da_cons (de_ty (by rfl) T.b_str (by decide +kernel)) da_nil))))) (dss_one (ds_raise rfl (T.s_BadText) T.m_BadText hr (takes_of rfl rfl rfl rfl) (da_cons de_int da_nil) (by rfl))) dss_nil)
    (dss_one (ds_expr (de_call ((ok_need_few T).mono (by decide)) hr (by rfl) T.m_need_few T.F_need_few.kp (bind_need_few T) (takes_of rfl rfl rfl rfl) (da_cons (de_callB DL.call_len ok_len (by rfl) T.b_len (by decide +kernel) (da_cons (de_var 0) da_nil)) (da_cons (de_gint (by rfl) T.c_MOST_SIGNS) da_nil)) (ALen.cons (ALen.cons ALen.nil)))))))
theorem bind_tokens_of (T : Tops P K mg) : Binds K T.fd_tokens_of ["text"] [] := T.F_tokens_of.bindsN fun _ _ _ _ _ _ us hl => match us, hl with | [_], _ => rfl
theorem kwb_tokens_of (T : Tops P K mg) : ∀ (s : Shared) (u : Value), K.In s.heap → BindsTo s T.fd_tokens_of ⟨[], [("text", u)]⟩ [("text", u)] := fun s u _ => by
  obtain ⟨oc, od, dV, kV, doc, pm, an, cdv, ct, osl, e, lk, hcd, hD, hK⟩ := T.F_tokens_of.ex
  rw [e]
  rcases hD with ⟨_, h⟩ | ⟨h, _⟩
  · rw [h]; exact BindsTo.of_eq (by rfl)
  · exact absurd rfl h
noncomputable def t_tokens_of (K : PySem.W.Frag) : TSf := (dSeq (dExpr (dCall (fn_need_text K) (dCons (dVar 0) dNil)))
    (dSeq (dSet 1 (dCall (fn_tokens_told) (dCons (dVar 0) dNil)))
    (dSeq (dIfS (dAnd (dTest (dOp gNe (dVar 1) (dLst dNil))) (dTest (dOp gEq (dOp gIx (dOp gIx (dVar 1) (dNeg (dC (.int 1)))) (dC (.int 0))) (dC (.str "?"))))) (dRaise (He.ga K "BadText") "at" (dCons (dOp gIx (dOp gIx (dVar 1) (dNeg (dC (.int 1)))) (dC (.int 1))) dNil)) dNext)
    (dRet (dCB gTuple (dCons (dVar 1) dNil))))))
noncomputable def fn_tokens_of (K : PySem.W.Frag) : FN := runF 2 (t_tokens_of K)
theorem ok_tokens_of (T : Tops P K mg) : FnG P w K mg base 3 (He.ga K "tokens_of") T.fd_tokens_of ["text"] (spF K 1 (fn_tokens_of K)) :=
  fnG_ok T.F_tokens_of sc_tokens_of (by decide) fun cdv A fs s H E hr =>
    (show DSs _ E (defBody s_tokens_of) (t_tokens_of K) from (dss_cons (ds_expr (de_call ((ok_need_text T).mono (by decide)) hr (by rfl) T.m_need_text T.F_need_text.kp (bind_need_text T) (takes_of rfl rfl rfl rfl) (da_cons (de_var 0) da_nil) (ALen.cons ALen.nil)))
    (dss_cons (ds_set (i := 1) sc_tokens_of.nd rfl (Or.inl rfl) (de_call ((ok_tokens_told T).mono (by decide)) hr (by rfl) T.m_tokens_told T.F_tokens_told.kp (bind_tokens_told T) (takes_of rfl rfl rfl rfl) (da_cons (de_var 0) da_nil) (ALen.cons ALen.nil)))
    (dss_cons (ds_if ((dw_and (dt_cmp (op_neA hr) ok_ne (de_var 1) (de_lst da_nil) (by rfl)) (dw_and1 (dt_cmp (op_eqA hr) ok_eq (de_ix (de_ix (de_var 1) (de_neg de_int)) de_int) (de_gstr (by rfl) T.c_NO_TOKEN) (by rfl))))).dt (dss_one (ds_raise rfl (T.s_BadText) T.m_BadText hr (takes_of rfl rfl rfl rfl) (da_cons (de_ix (de_ix (de_var 1) (de_neg de_int)) de_int) da_nil) (by rfl))) dss_nil)
    (dss_one (ds_ret (de_callTy DL.call_tuple ok_tuple (by rfl) T.b_tuple (by decide +kernel) (da_cons (de_var 1) da_nil))))))))
theorem bind__law_begun (T : Tops P K mg) : Binds K T.fd__law_begun ["script"] [] := T.F__law_begun.bindsN fun _ _ _ _ _ _ us hl => match us, hl with | [_], _ => rfl
theorem bind__law_mixed (T : Tops P K mg) : Binds K T.fd__law_mixed ["draw"] [] := T.F__law_mixed.bindsN fun _ _ _ _ _ _ us hl => match us, hl with | [_], _ => rfl
noncomputable def t__law_mixed : TSf := (dSeq (dPar 1 2 (dOp gAdd (dDrTurn 0 "turn") (dC (.int 1))) (dC (.int 0)))
    (dSeq (dDrSetTurn 0 "turn" (dVar 1))
    (dSeq (dFor (iSq (dLst (dCons (dC (.int 2147483647)) (dCons (dC (.int 2147483629)) (dCons (dC (.int 2147483587)) (dCons (dC (.int 2147483579)) dNil)))))) (gNm 3) (dSeq (dSet 4 (dOp gAdd (dOp gMul (dC (.int 48271)) (dVar 1)) (dOp gFdiv (dVar 3) (dC (.int 37)))))
    (dSeq (dForC 0 (gNm 5) (dSet 4 (dOp gMod (dCB gInt (dCons (dOp gAdd (dOp gAdd (dOp gMul (dVar 4) (dC (.int 69621))) (dVar 5)) (dVar 1)) dNil)) (dVar 3))))
    (dSet 2 (dOp gAdd (dOp gMul (dVar 2) (dC (.int 2147483648))) (dOp gMod (dCB gInt (dCons (dOp gPow (dVar 4) (dC (.int 3))) dNil)) (dVar 3)))))))
    (dRet (dVar 2)))))
noncomputable def fn__law_mixed : FN := runF 6 (t__law_mixed)
theorem ok__law_mixed (T : Tops P K mg) : FnG P w K mg base 1 (He.ga K "_law_mixed") T.fd__law_mixed ["draw"] (spF K 1 (fn__law_mixed)) :=
  fnG_ok T.F__law_mixed sc__law_mixed (by decide) fun cdv A fs s H E hr =>
    (show DSs _ E (defBody s__law_mixed) (t__law_mixed) from (dss_cons (ds_par (i := 1) (j := 2) rfl sc__law_mixed.nd rfl rfl (by decide) rfl rfl (de_op op_addAll ok_add (de_drTurn hr (i := 0) (by rfl) (by first | exact Or.inl rfl | exact Or.inr (Or.inl rfl) | exact Or.inr (Or.inr rfl))) de_int) de_int (by rfl))
    (dss_cons (ds_drSetTurn hr (i := 0) (by rfl) (by first | exact Or.inl rfl | exact Or.inr (Or.inl rfl) | exact Or.inr (Or.inr rfl)) (de_var 1))
    (dss_cons (ds_for (passes_of rfl) rfl (di_seq (de_lst (da_cons de_int (da_cons de_int (da_cons de_int (da_cons de_int da_nil)))))) (vs := List.range 6) (dg_name (i := 3) sc__law_mixed.nd rfl (Or.inl rfl) (by decide)) (dss_cons (ds_set (i := 4) sc__law_mixed.nd rfl (Or.inl rfl) (de_op op_addAll ok_add (de_op op_mulAll ok_mul de_int (de_var 1)) (de_op op_fdiv ok_fdiv (de_var 3) de_int)))
    (dss_cons (ds_forC hr (passes_of rfl) rfl (i := 0) (by rfl) (by first | exact Or.inl rfl | exact Or.inr (Or.inl rfl) | exact Or.inr (Or.inr rfl)) (vs := List.range 6) (dg_name (i := 5) sc__law_mixed.nd rfl (Or.inl rfl) (by decide)) (dss_one (ds_set (i := 4) sc__law_mixed.nd rfl (Or.inl rfl) (de_op op_mod ok_mod (de_callTy DL.call_int ok_int (by rfl) T.b_int (by decide +kernel) (da_cons (de_op op_addAll ok_add (de_op op_addAll ok_add (de_op op_mulAll ok_mul (de_var 4) de_int) (de_var 5)) (de_var 1)) da_nil)) (de_var 3)))))
    (dss_one (ds_set (i := 2) sc__law_mixed.nd rfl (Or.inl rfl) (de_op op_addAll ok_add (de_op op_mulAll ok_mul (de_var 2) de_int) (de_op op_mod ok_mod (de_callTy DL.call_int ok_int (by rfl) T.b_int (by decide +kernel) (da_cons (de_op op_pow ok_pow (de_var 4) de_int) da_nil)) (de_var 3))))))))
    (dss_one (ds_ret (de_var 2)))))))
theorem bind__law_take (T : Tops P K mg) : Binds K T.fd__law_take ["draw", "high"] [] := T.F__law_take.bindsN fun _ _ _ _ _ _ us hl => match us, hl with | [_, _], _ => rfl
noncomputable def t__law_take : TSf := (dSeq (dIfS (dTest (dOp gEq (dDrRest 0) (dC (.int 0)))) (dDrSetRest 0 (dIf (tDrNe 0) (dDrPop 0) (dCall (fn__law_mixed) (dCons (dVar 0) dNil)))) dNext)
    (dSeq (dSet 2 (dOp gMod (dCB gInt (dCons (dDrRest 0) dNil)) (dVar 1)))
    (dSeq (dDrSetRest 0 (dOp gFdiv (dCB gInt (dCons (dDrRest 0) dNil)) (dVar 1)))
    (dRet (dVar 2)))))
noncomputable def fn__law_take : FN := runF 3 (t__law_take)
theorem ok__law_take (T : Tops P K mg) : FnG P w K mg base 2 (He.ga K "_law_take") T.fd__law_take ["draw", "high"] (spF K 2 (fn__law_take)) :=
  fnG_ok T.F__law_take sc__law_take (by decide) fun cdv A fs s H E hr =>
    (show DSs _ E (defBody s__law_take) (t__law_take) from (dss_cons (ds_if (dt_cmp (op_eqA hr) ok_eq (de_drRest hr (i := 0) (by rfl) (by first | exact Or.inl rfl | exact Or.inr (Or.inl rfl) | exact Or.inr (Or.inr rfl))) de_int (by rfl)) (dss_one (ds_drSetRest hr (i := 0) (by rfl) (by first | exact Or.inl rfl | exact Or.inr (Or.inl rfl) | exact Or.inr (Or.inr rfl)) (de_if (dt_drNe hr (i := 0) (by rfl) (by first | exact Or.inl rfl | exact Or.inr (Or.inl rfl) | exact Or.inr (Or.inr rfl))) (de_drPop hr (i := 0) (by rfl) (by first | exact Or.inl rfl | exact Or.inr (Or.inl rfl) | exact Or.inr (Or.inr rfl))) (de_call ((ok__law_mixed T).mono (by decide)) hr (by rfl) T.m__law_mixed T.F__law_mixed.kp (bind__law_mixed T) (takes_of rfl rfl rfl rfl) (da_cons (de_var 0) da_nil) (ALen.cons ALen.nil))))) dss_nil)
    (dss_cons (ds_set (i := 2) sc__law_take.nd rfl (Or.inl rfl) (de_op op_mod ok_mod (de_callTy DL.call_int ok_int (by rfl) T.b_int (by decide +kernel) (da_cons (de_drRest hr (i := 0) (by rfl) (by first | exact Or.inl rfl | exact Or.inr (Or.inl rfl) | exact Or.inr (Or.inr rfl))) da_nil)) (de_var 1)))
    (dss_cons (ds_drSetRest hr (i := 0) (by rfl) (by first | exact Or.inl rfl | exact Or.inr (Or.inl rfl) | exact Or.inr (Or.inr rfl)) (de_op op_fdiv ok_fdiv (de_callTy DL.call_int ok_int (by rfl) T.b_int (by decide +kernel) (da_cons (de_drRest hr (i := 0) (by rfl) (by first | exact Or.inl rfl | exact Or.inr (Or.inl rfl) | exact Or.inr (Or.inr rfl))) da_nil)) (de_var 1)))
    (dss_one (ds_ret (de_var 2)))))))
theorem bind__law_pick (T : Tops P K mg) : Binds K T.fd__law_pick ["draw", "some"] [] := T.F__law_pick.bindsN fun _ _ _ _ _ _ us hl => match us, hl with | [_, _], _ => rfl
noncomputable def t__law_pick : TSf := (dRet (dOp gIx (dVar 1) (dCall (fn__law_take) (dCons (dVar 0) (dCons (dCB gLen (dCons (dVar 1) dNil)) dNil)))))
noncomputable def fn__law_pick : FN := runF 2 (t__law_pick)
theorem ok__law_pick (T : Tops P K mg) : FnG P w K mg base 3 (He.ga K "_law_pick") T.fd__law_pick ["draw", "some"] (spF K 2 (fn__law_pick)) :=
  fnG_ok T.F__law_pick sc__law_pick (by decide) fun cdv A fs s H E hr =>
    (show DSs _ E (defBody s__law_pick) (t__law_pick) from (dss_one (ds_ret (de_ix (de_var 1) (de_call ((ok__law_take T).mono (by decide)) hr (by rfl) T.m__law_take T.F__law_take.kp (bind__law_take T) (takes_of rfl rfl rfl rfl) (da_cons (de_var 0) (da_cons (de_callB DL.call_len ok_len (by rfl) T.b_len (by decide +kernel) (da_cons (de_var 1) da_nil)) da_nil)) (ALen.cons (ALen.cons ALen.nil)))))))
theorem bind__law_caught (T : Tops P K mg) : Binds K T.fd__law_caught ["work"] [] := T.F__law_caught.bindsN fun _ _ _ _ _ _ us hl => match us, hl with | [_], _ => rfl
theorem bind__law_same (T : Tops P K mg) : Binds K T.fd__law_same ["thing", "due"] [] := T.F__law_same.bindsN fun _ _ _ _ _ _ us hl => match us, hl with | [_, _], _ => rfl
noncomputable def t__law_same : TSf := (dRet (dOp gEq (dCB gRepr (dCons (dVar 0) dNil)) (dCB gRepr (dCons (dVar 1) dNil))))
noncomputable def fn__law_same : FN := runF 2 (t__law_same)
theorem ok__law_same (T : Tops P K mg) : FnG P w K mg base 1 (He.ga K "_law_same") T.fd__law_same ["thing", "due"] (spF K 2 (fn__law_same)) :=
  fnG_ok T.F__law_same sc__law_same (by decide) fun cdv A fs s H E hr =>
    (show DSs _ E (defBody s__law_same) (t__law_same) from (dss_one (ds_ret (de_cmp (op_eqA hr) ok_eq (de_callB (DL.call_repr hr) ok_repr (by rfl) T.b_repr (by decide +kernel) (da_cons (de_var 0) da_nil)) (de_callB (DL.call_repr hr) ok_repr (by rfl) T.b_repr (by decide +kernel) (da_cons (de_var 1) da_nil)) (by rfl)))))
theorem bind__law_is_bad_at (T : Tops P K mg) : Binds K T.fd__law_is_bad_at ["work", "at"] [] := T.F__law_is_bad_at.bindsN fun _ _ _ _ _ _ us hl => match us, hl with | [_, _], _ => rfl
theorem bind__law_is_too_many (T : Tops P K mg) : Binds K T.fd__law_is_too_many ["work", "most"] [] := T.F__law_is_too_many.bindsN fun _ _ _ _ _ _ us hl => match us, hl with | [_, _], _ => rfl
theorem bind__law_scanned (T : Tops P K mg) : Binds K T.fd__law_scanned ["text"] [] := T.F__law_scanned.bindsN fun _ _ _ _ _ _ us hl => match us, hl with | [_], _ => rfl
noncomputable def t__law_scanned : TSf := (dSeq (dPar 1 2 (dLst dNil) (dC (.int 0)))
    (dSeq (dFor (iRg1 (dCons (dOp gAdd (dCB gLen (dCons (dVar 0) dNil)) (dC (.int 1))) dNil)) (gNm 3) (dSeq (dIfS (dTest (dOp gEq (dVar 2) (dCB gLen (dCons (dVar 0) dNil)))) dBreak dNext)
    (dSeq (dPar 4 5 (dOp gIx (dVar 0) (dVar 2)) (dOp gAdd (dVar 2) (dC (.int 1))))
    (dSeq (dSet 6 (dIf (dTest (dOp gIn (dVar 4) (dC (.str "abcdefghijklmnopqrstuvwxyz")))) (dC (.str "abcdefghijklmnopqrstuvwxyz")) (dIf (dTest (dOp gIn (dVar 4) (dC (.str "0123456789")))) (dC (.str "0123456789")) (dC (.str "")))))
    (dSeq (dIfS (dTest (dOp gNe (dVar 6) (dC (.str "")))) (whileS (dAnd (dTest (dOp gLt (dVar 5) (dCB gLen (dCons (dVar 0) dNil)))) (dTest (dOp gIn (dOp gIx (dVar 0) (dVar 5)) (dVar 6)))) (dSet 5 (dOp gAdd (dVar 5) (dC (.int 1))))) (dIfS (dTest (dOp gNotIn (dVar 4) (dC (.str ",;:/- \n")))) (dRet (dOp gAdd (dVar 1) (dLst (dCons (dTup (dCons (dC (.str "?")) (dCons (dVar 2) dNil))) dNil)))) dNext))
    (dSeq (dIfS (dTest (dOp gNotIn (dVar 4) (dC (.str " \n")))) (dApp 1 (dTup (dCons (dCutLH (dVar 0) (dVar 2) (dVar 5)) (dCons (dVar 2) dNil)))) dNext)
    (dSet 2 (dVar 5))))))))
    (dRet (dOp gAdd (dVar 1) (dLst (dCons (dTup (dCons (dC (.str "")) (dCons (dCB gLen (dCons (dVar 0) dNil)) dNil))) dNil))))))
noncomputable def fn__law_scanned : FN := runF 7 (t__law_scanned)
theorem ok__law_scanned (T : Tops P K mg) : FnG P w K mg base 1 (He.ga K "_law_scanned") T.fd__law_scanned ["text"] (spF K 1 (fn__law_scanned)) :=
  fnG_ok T.F__law_scanned sc__law_scanned (by decide) fun cdv A fs s H E hr =>
    (show DSs _ E (defBody s__law_scanned) (t__law_scanned) from (dss_cons (ds_par (i := 1) (j := 2) rfl sc__law_scanned.nd rfl rfl (by decide) rfl rfl (de_lst da_nil) de_int (by rfl))
    (dss_cons (ds_for (passes_of rfl) rfl (di_range1 (by rfl) T.b_range (da_cons (de_op op_addAll ok_add (de_callB DL.call_len ok_len (by rfl) T.b_len (by decide +kernel) (da_cons (de_var 0) da_nil)) de_int) da_nil)) (vs := List.range 7) (dg_name (i := 3) sc__law_scanned.nd rfl (Or.inl rfl) (by decide)) (dss_cons (ds_if (dt_cmp (op_eqA hr) ok_eq (de_var 2) (de_callB DL.call_len ok_len (by rfl) T.b_len (by decide +kernel) (da_cons (de_var 0) da_nil)) (by rfl)) (dss_one ds_break) dss_nil)
    (dss_cons (ds_par (i := 4) (j := 5) rfl sc__law_scanned.nd rfl rfl (by decide) rfl rfl (de_ix (de_var 0) (de_var 2)) (de_op op_addAll ok_add (de_var 2) de_int) (by rfl))
    (dss_cons (ds_set (i := 6) sc__law_scanned.nd rfl (Or.inl rfl) (de_if (dt_cmp op_inS ok_in (de_var 4) de_str (by rfl)) de_str (de_if (dt_cmp op_inS ok_in (de_var 4) de_str (by rfl)) de_str de_str)))
    (dss_cons (ds_if (dt_cmp (op_neA hr) ok_ne (de_var 6) de_str (by rfl)) (dss_one (ds_while (passes_of rfl) ((dw_and (dt_cmp op_lt ok_lt (de_var 5) (de_callB DL.call_len ok_len (by rfl) T.b_len (by decide +kernel) (da_cons (de_var 0) da_nil)) (by rfl)) (dw_and1 (dt_cmp op_inS ok_in (de_ix (de_var 0) (de_var 5)) (de_var 6) (by rfl))))).dt (dss_one (ds_set (i := 5) sc__law_scanned.nd rfl (Or.inl rfl) (de_op op_addAll ok_add (de_var 5) de_int))))) (dss_one (ds_if (dt_cmp op_notInS ok_notIn (de_var 4) de_str (by rfl)) (dss_one (ds_ret (de_op op_addAll ok_add (de_var 1) (de_lst (da_cons (de_tup (da_cons de_str (da_cons (de_var 2) da_nil))) da_nil))))) dss_nil)))
    (dss_cons (ds_if (dt_cmp op_notInS ok_notIn (de_var 4) de_str (by rfl)) (dss_one (ds_append (i := 1) (by rfl) (by first | exact Or.inl rfl | exact Or.inr (Or.inl rfl) | exact Or.inr (Or.inr rfl)) (de_tup (da_cons (de_cutLH (de_var 0) (de_var 2) (de_var 5)) (da_cons (de_var 2) da_nil))))) dss_nil)
    (dss_one (ds_set (i := 2) sc__law_scanned.nd rfl (Or.inl rfl) (de_var 5)))))))))
    (dss_one (ds_ret (de_op op_addAll ok_add (de_var 1) (de_lst (da_cons (de_tup (da_cons de_str (da_cons (de_callB DL.call_len ok_len (by rfl) T.b_len (by decide +kernel) (da_cons (de_var 0) da_nil)) da_nil))) da_nil))))))))
theorem bind__law_spread (T : Tops P K mg) : Binds K T.fd__law_spread ["draw", "tokens"] [] := T.F__law_spread.bindsN fun _ _ _ _ _ _ us hl => match us, hl with | [_, _], _ => rfl
noncomputable def t__law_spread : TSf := (dSeq (dPar 2 3 (dCall (fn__law_pick) (dCons (dVar 0) (dCons (dLst (dCons (dC (.str "")) (dCons (dC (.str " ")) (dCons (dC (.str "\n")) dNil)))) dNil))) (dC (.str "")))
    (dSeq (dFor (iSq (dVar 1)) (gNm 4) (dSeq (dSet 5 (dOrV (dOp gEq (dVar 3) (dC (.str ""))) (dNotV (dOrV (dAndV (dBM0 isStr (gStr0 fun a => .bl (Txt.isalpha a)) (dVar 3)) (dBM0 isStr (gStr0 fun a => .bl (Txt.isalpha a)) (dVar 4))) (dAndV (dBM0 isStr (gStr0 fun a => .bl (Txt.isdigit a)) (dVar 3)) (dBM0 isStr (gStr0 fun a => .bl (Txt.isdigit a)) (dVar 4)))))))
    (dSeq (dSet 2 (dOp gAdd (dOp gAdd (dVar 2) (dIf (dTest (dVar 5)) (dCall (fn__law_pick) (dCons (dVar 0) (dCons (dLst (dCons (dC (.str "")) (dCons (dC (.str " ")) (dCons (dC (.str "\n")) (dCons (dC (.str "  ")) dNil))))) dNil))) (dCall (fn__law_pick) (dCons (dVar 0) (dCons (dLst (dCons (dC (.str " ")) (dCons (dC (.str "\n ")) dNil))) dNil))))) (dVar 4)))
    (dSet 3 (dVar 4)))))
    (dRet (dOp gAdd (dVar 2) (dCall (fn__law_pick) (dCons (dVar 0) (dCons (dLst (dCons (dC (.str "")) (dCons (dC (.str "\n")) (dCons (dC (.str " ")) dNil)))) dNil)))))))
noncomputable def fn__law_spread : FN := runF 6 (t__law_spread)
theorem ok__law_spread (T : Tops P K mg) : FnG P w K mg base 4 (He.ga K "_law_spread") T.fd__law_spread ["draw", "tokens"] (spF K 2 (fn__law_spread)) :=
  fnG_ok T.F__law_spread sc__law_spread (by decide) fun cdv A fs s H E hr =>
    (show DSs _ E (defBody s__law_spread) (t__law_spread) from (dss_cons (ds_par (i := 2) (j := 3) rfl sc__law_spread.nd rfl rfl (by decide) rfl rfl (de_call ((ok__law_pick T).mono (by decide)) hr (by rfl) T.m__law_pick T.F__law_pick.kp (bind__law_pick T) (takes_of rfl rfl rfl rfl) (da_cons (de_var 0) (da_cons (de_lst (da_cons de_str (da_cons de_str (da_cons de_str da_nil)))) da_nil)) (ALen.cons (ALen.cons ALen.nil))) de_str (by rfl))
    (dss_cons (ds_for (passes_of rfl) rfl (di_seq (de_var 1)) (vs := List.range 6) (dg_name (i := 4) sc__law_spread.nd rfl (Or.inl rfl) (by decide)) (dss_cons (ds_set (i := 5) sc__law_spread.nd rfl (Or.inl rfl) (de_or (de_cmp (op_eqA hr) ok_eq (de_var 3) de_str (by rfl)) (de_one (de_not (de_or (de_and (de_isalpha (de_var 3)) (de_one (de_isalpha (de_var 4)))) (de_one (de_and (de_isdigit (de_var 3)) (de_one (de_isdigit (de_var 4))))))))))
    (dss_cons (ds_set (i := 2) sc__law_spread.nd rfl (Or.inl rfl) (de_op op_addAll ok_add (de_op op_addAll ok_add (de_var 2) (de_if (dt_val (de_var 5)) (de_call ((ok__law_pick T).mono (by decide)) hr (by rfl) T.m__law_pick T.F__law_pick.kp (bind__law_pick T) (takes_of rfl rfl rfl rfl) (da_cons (de_var 0) (da_cons (de_lst (da_cons de_str (da_cons de_str (da_cons de_str (da_cons de_str da_nil))))) da_nil)) (ALen.cons (ALen.cons ALen.nil))) (de_call ((ok__law_pick T).mono (by decide)) hr (by rfl) T.m__law_pick T.F__law_pick.kp (bind__law_pick T) (takes_of rfl rfl rfl rfl) (da_cons (de_var 0) (da_cons (de_lst (da_cons de_str (da_cons de_str da_nil))) da_nil)) (ALen.cons (ALen.cons ALen.nil))))) (de_var 4)))
    (dss_one (ds_set (i := 3) sc__law_spread.nd rfl (Or.inl rfl) (de_var 4))))))
    (dss_one (ds_ret (de_op op_addAll ok_add (de_var 2) (de_call ((ok__law_pick T).mono (by decide)) hr (by rfl) T.m__law_pick T.F__law_pick.kp (bind__law_pick T) (takes_of rfl rfl rfl rfl) (da_cons (de_var 0) (da_cons (de_lst (da_cons de_str (da_cons de_str (da_cons de_str da_nil)))) da_nil)) (ALen.cons (ALen.cons ALen.nil)))))))))
theorem bind__law_drawn_tokens (T : Tops P K mg) : Binds K T.fd__law_drawn_tokens ["draw"] [] := T.F__law_drawn_tokens.bindsN fun _ _ _ _ _ _ us hl => match us, hl with | [_], _ => rfl
noncomputable def t__law_drawn_tokens : TSf := (dSeq (dSet 1 (dLst dNil))
    (dSeq (dFor (iRg1 (dCons (dCall (fn__law_take) (dCons (dVar 0) (dCons (dC (.int 14)) dNil))) dNil)) (gNm 2) (dSeq (dPar 3 4 (dCall (fn__law_take) (dCons (dVar 0) (dCons (dC (.int 4)) dNil))) (dOp gAdd (dC (.int 1)) (dCall (fn__law_take) (dCons (dVar 0) (dCons (dCall (fn__law_pick) (dCons (dVar 0) (dCons (dLst (dCons (dC (.int 3)) (dCons (dC (.int 12)) (dCons (dC (.int 70)) dNil)))) dNil))) dNil)))))
    (dIfS (dTest (dOp gEq (dVar 3) (dC (.int 0)))) (dApp 1 (dBM isStr gJoin (dC (.str "")) (dCons (dLc (iRg1 (dCons (dVar 4) dNil)) (gNm 5) dYes (dCall (fn__law_pick) (dCons (dVar 0) (dCons (dCB gListS (dCons (dC (.str "abcdefghijklmnopqrstuvwxyz")) dNil)) dNil))) [5]) dNil))) (dIfS (dTest (dOp gEq (dVar 3) (dC (.int 1)))) (dApp 1 (dBM isStr gJoin (dC (.str "")) (dCons (dLc (iRg1 (dCons (dVar 4) dNil)) (gNm 5) dYes (dCall (fn__law_pick) (dCons (dVar 0) (dCons (dCB gListS (dCons (dC (.str "0123456789")) dNil)) dNil))) [5]) dNil))) (dApp 1 (dCall (fn__law_pick) (dCons (dVar 0) (dCons (dIf (dTest (dOp gEq (dVar 3) (dC (.int 2)))) (dLst (dCons (dC (.str ",")) (dCons (dC (.str ";")) (dCons (dC (.str ":")) (dCons (dC (.str "/")) (dCons (dC (.str "-")) dNil)))))) (dLst (dCons (dC (.str "look")) (dCons (dC (.str "kind")) (dCons (dC (.str "columns")) (dCons (dC (.str "web")) (dCons (dC (.str "told")) (dCons (dC (.str "0")) (dCons (dC (.str "00")) dNil))))))))) dNil))))))))
    (dRet (dVar 1))))
noncomputable def fn__law_drawn_tokens : FN := runF 6 (t__law_drawn_tokens)
theorem ok__law_drawn_tokens (T : Tops P K mg) : FnG P w K mg base 4 (He.ga K "_law_drawn_tokens") T.fd__law_drawn_tokens ["draw"] (spF K 1 (fn__law_drawn_tokens)) :=
  fnG_ok T.F__law_drawn_tokens sc__law_drawn_tokens (by decide) fun cdv A fs s H E hr =>
    (show DSs _ E (defBody s__law_drawn_tokens) (t__law_drawn_tokens) from (dss_cons (ds_set (i := 1) sc__law_drawn_tokens.nd rfl (Or.inl rfl) (de_lst da_nil))
    (dss_cons (ds_for (passes_of rfl) rfl (di_range1 (by rfl) T.b_range (da_cons (de_call ((ok__law_take T).mono (by decide)) hr (by rfl) T.m__law_take T.F__law_take.kp (bind__law_take T) (takes_of rfl rfl rfl rfl) (da_cons (de_var 0) (da_cons de_int da_nil)) (ALen.cons (ALen.cons ALen.nil))) da_nil)) (vs := List.range 6) (dg_name (i := 2) sc__law_drawn_tokens.nd rfl (Or.inl rfl) (by decide)) (dss_cons (ds_par (i := 3) (j := 4) rfl sc__law_drawn_tokens.nd rfl rfl (by decide) rfl rfl (de_call ((ok__law_take T).mono (by decide)) hr (by rfl) T.m__law_take T.F__law_take.kp (bind__law_take T) (takes_of rfl rfl rfl rfl) (da_cons (de_var 0) (da_cons de_int da_nil)) (ALen.cons (ALen.cons ALen.nil))) (de_op op_addAll ok_add de_int (de_call ((ok__law_take T).mono (by decide)) hr (by rfl) T.m__law_take T.F__law_take.kp (bind__law_take T) (takes_of rfl rfl rfl rfl) (da_cons (de_var 0) (da_cons (de_call ((ok__law_pick T).mono (by decide)) hr (by rfl) T.m__law_pick T.F__law_pick.kp (bind__law_pick T) (takes_of rfl rfl rfl rfl) (da_cons (de_var 0) (da_cons (de_lst (da_cons de_int (da_cons de_int (da_cons de_int da_nil)))) da_nil)) (ALen.cons (ALen.cons ALen.nil))) da_nil)) (ALen.cons (ALen.cons ALen.nil)))) (by rfl))
    (dss_one (ds_if (dt_cmp (op_eqA hr) ok_eq (de_var 3) de_int (by rfl)) (dss_one (ds_append (i := 1) (by rfl) (by first | exact Or.inl rfl | exact Or.inr (Or.inl rfl) | exact Or.inr (Or.inr rfl)) (de_join de_str (da_cons (de_lc (own := [("step", 5)]) rfl sc__law_drawn_tokens.nd (di_range1 (by rfl) T.b_range (da_cons (de_var 4) da_nil)) (blkOk_by (N := ["draw", "found", "lap", "way", "size", "step"]) (sc := defScope s__law_drawn_tokens) (by decide +kernel)) (fun s H C cl fp => (dg_name (i := 5) sc__law_drawn_tokens.nd rfl (Or.inl rfl) (by decide))) (fun s H C cl fp => dts_nil) (fun s H C cl fp => (de_call ((ok__law_pick T).mono (by decide)) hr (by rfl) T.m__law_pick T.F__law_pick.kp (bind__law_pick T) L2.takes0 (da_cons (de_var 0) (da_cons (de_callTy (DL.call_listS rfl) ok_listS (by rfl) T.b_list (by decide +kernel) (da_cons de_str da_nil)) da_nil)) (ALen.cons (ALen.cons ALen.nil))))) da_nil)))) (dss_one (ds_if (dt_cmp (op_eqA hr) ok_eq (de_var 3) de_int (by rfl)) (dss_one (ds_append (i := 1) (by rfl) (by first | exact Or.inl rfl | exact Or.inr (Or.inl rfl) | exact Or.inr (Or.inr rfl)) (de_join de_str (da_cons (de_lc (own := [("step", 5)]) rfl sc__law_drawn_tokens.nd (di_range1 (by rfl) T.b_range (da_cons (de_var 4) da_nil)) (blkOk_by (N := ["draw", "found", "lap", "way", "size", "step"]) (sc := defScope s__law_drawn_tokens) (by decide +kernel)) (fun s H C cl fp => (dg_name (i := 5) sc__law_drawn_tokens.nd rfl (Or.inl rfl) (by decide))) (fun s H C cl fp => dts_nil) (fun s H C cl fp => (de_call ((ok__law_pick T).mono (by decide)) hr (by rfl) T.m__law_pick T.F__law_pick.kp (bind__law_pick T) L2.takes0 (da_cons (de_var 0) (da_cons (de_callTy (DL.call_listS rfl) ok_listS (by rfl) T.b_list (by decide +kernel) (da_cons de_str da_nil)) da_nil)) (ALen.cons (ALen.cons ALen.nil))))) da_nil)))) (dss_one (ds_append (i := 1) (by rfl) (by first | exact Or.inl rfl | exact Or.inr (Or.inl rfl) | exact Or.inr (Or.inr rfl)) (de_call ((ok__law_pick T).mono (by decide)) hr (by rfl) T.m__law_pick T.F__law_pick.kp (bind__law_pick T) (takes_of rfl rfl rfl rfl) (da_cons (de_var 0) (da_cons (de_if (dt_cmp (op_eqA hr) ok_eq (de_var 3) de_int (by rfl)) (de_lst (da_cons de_str (da_cons de_str (da_cons de_str (da_cons de_str (da_cons de_str da_nil)))))) (de_lst (da_cons de_str (da_cons de_str (da_cons de_str (da_cons de_str (da_cons de_str (da_cons de_str (da_cons de_str da_nil))))))))) da_nil)) (ALen.cons (ALen.cons ALen.nil)))))))))))
    (dss_one (ds_ret (de_var 1))))))
theorem bind_law (T : Tops P K mg) : Binds K T.fd_law ["script"] [] := T.F_law.bindsN fun _ _ _ _ _ _ us hl => match us, hl with | [_], _ => rfl
end
end Gk11

end

section -- K11a
set_option Elab.async false
set_option linter.all false
set_option maxRecDepth 100000
set_option maxHeartbeats 1000000
namespace Gk11
open PySem PySem.Spec L2 DL
theorem need_few_ok (K : PySem.W.Frag) (w : W) (n m : Int) (h : n ≤ m) : ∃ e, fn_need_few K w [.sh (.int n), .sh (.int m)] = some (.rt (.sh .non) ⟨w, e⟩) := by
  simp [fn_need_few, t_need_few, Int.not_lt.mpr h]
theorem need_few_bad (K : PySem.W.Frag) (w : W) (n m : Int) (h : m < n) : fn_need_few K w [.sh (.int n), .sh (.int m)] = some (.exc ⟨He.ga K "TooMany", some ("most", .int m)⟩ w) := by
  simp [fn_need_few, t_need_few, h]
end Gk11

end

section -- K11hand
set_option Elab.async false
set_option linter.all false
set_option maxRecDepth 100000
set_option maxHeartbeats 4000000
namespace Gk11
open PySem PySem.Spec L2 DL
open PyProof.Rows (envOfC)
section
variable {P : Program} {w : World} {K : PySem.W.Frag} {mg : Str → Option Value} {base : Heap}
/-! ### what the function's end becomes -/
open Classical in
noncomputable def FT__law_caught (K : PySem.W.Frag) : FT := fun F w rs => match rs with
  | [] => match F w with
    | some (.rt (.sh _) s) => some (.rt (.sh .non) ⟨s.w, []⟩)
    | some (.exc x w') => if PySem.W.exmOne K (.ref x.cls) (.ref (He.ga K "LookError")) = some true then some (.rt (.sh (exnD x.cls x.f)) ⟨w', []⟩) else none
    | _ => none
  | _ => none
noncomputable def t__law_caught (K : PySem.W.Frag) (d : D) (F : W → Option Fl) : TSf :=
  dSeq (dSet 1 (dC .non)) (dSeq (dKept K (.ref (He.ga K "LookError")) 3 2 1 (dExpr (dThk 0 d F))) (dRet (dVar 1)))
theorem fle_caught (d : D) (F : W → Option Fl) : FLe ((FT__law_caught K).at d F) (runF 3 (t__law_caught K d F)) := by
  intro w rs
  match rs with
  | [] => simp [FT.at]
  | r :: r2 :: rs =>
    unfold FT.at FT__law_caught
    by_cases h : r = .sh d
    · simp [h]
    · simp [h]
  | [r] =>
    unfold FT.at FT__law_caught
    by_cases h : r = .sh d
    · subst h
      simp only [if_true]
      have e0 : t__law_caught K d F ⟨w, [.sh d, .no, .no]⟩ = sB (dKept K (.ref (He.ga K "LookError")) 3 2 1 (dExpr (dThk 0 d F)) ⟨w, [.sh d, .sh .non, .no]⟩) (dRet (dVar 1)) := by
        simp [t__law_caught]
      match hF : F w with
      | none => trivial
      | some (.nx s) => trivial
      | some (.bk s) => trivial
      | some (.ct s) => trivial
      | some (.rt .no s) => trivial
      | some (.rt (.own _) s) => trivial
      | some (.rt (.lck _) s) => trivial
      | some (.rt .dr s) => trivial
      | some (.rt (.sh d2) s) =>
        refine ⟨⟨s.w, [.sh d, .sh .non, .no]⟩, ?_, rfl⟩
        show (match t__law_caught K d F ⟨w, [.sh d, .no, .no]⟩ with
          | some (.nx s) => some (Fl.rt (.sh .non) s)
          | some (.rt r s) => some (Fl.rt r s)
          | some (.exc x w) => some (Fl.exc x w)
          | _ => none) = _
        rw [e0]
        simp [dKept, dThk, hF]
      | some (.exc x w') =>
        by_cases hx : PySem.W.exmOne K (.ref x.cls) (.ref (He.ga K "LookError")) = some true
        · simp only [hx, if_true]
          refine ⟨⟨w', [.no, .sh (exnD x.cls x.f), .no]⟩, ?_, rfl⟩
          show (match t__law_caught K d F ⟨w, [.sh d, .no, .no]⟩ with
            | some (.nx s) => some (Fl.rt (.sh .non) s)
            | some (.rt r s) => some (Fl.rt r s)
            | some (.exc x w) => some (Fl.exc x w)
            | _ => none) = _
          rw [e0]
          simp [dKept, dThk, hF, hx]
        · simp only [hx, if_false]
    · simp [h]
theorem Thk.mono {kt k : Nat} {f c : Addr} {q : Str} {vs : List V} {ds : List D} {F : W → Option Fl} (T : Thk P w K mg base kt f c q vs ds F) (h : kt ≤ k) : Thk P w K mg base k f c q vs ds F :=
  ⟨T.obj, fun A fs s H Q E Av dr w0 hr => T.run A fs s H Q E Av dr w0 (hr.mono h)⟩
theorem okt__law_caught (T : Tops P K mg) {kt : Nat} {f c : Addr} {q : Str} {vs : List V} {ds : List D} {F : W → Option Fl} (TH : Thk P w K mg base kt f c q vs ds F) :
    FnG P w K mg base (kt + 1) (He.ga K "_law_caught") T.fd__law_caught ["work"] (spF K 1 ((FT__law_caught K).at (.fn f c q vs ds) F)) := by
  refine FnG.imp (sp := spF K 1 (runF 3 (t__law_caught K (.fn f c q vs ds) F))) ?_ (spF_le (fle_caught _ _))
  refine fnG_of T.F__law_caught sc__law_caught (fun vs H Q E h => h.1) fun cdv A fs s H vs' Q E hr h => ?_
  obtain ⟨hl, Av, dr, w0, rs, hA, hw, ha, q'⟩ := h
  exact ⟨_, pss_lift ((ds_set (i := 1) sc__law_caught.nd rfl (Or.inl rfl) de_non).run ⟨Av, H, dr⟩ []) (pss_lift (ps_keptD (i := 2) (j := 1) (c := .ref (He.ga K "LookError")) rfl rfl rfl sc__law_caught.nd rfl rfl rfl rfl rfl ⟨by rfl, by decide, .inl T.m_LookError⟩
    (fun E' pn xe tk => dss_one (ds_expr (de_thk TH hr tk (i := 0) (by rfl) (by first | exact Or.inl rfl | exact Or.inr (Or.inl rfl) | exact Or.inr (Or.inr rfl)))))) (pss_one ((ds_ret (de_var 1)).run ⟨Av, H, dr⟩ []))), run_spF (ps := ["work"]) (by decide) hl hA hw ha q'⟩
/-! ### _law_is_bad_at -/
noncomputable def t__law_is_bad_at (K : PySem.W.Frag) (d : D) (F : W → Option Fl) : TSf :=
  dSeq (dSet 2 (dCall (FT.at (FT__law_caught K) d F) (dCons (dVar 0) dNil)))
    (dRet (dAndV (dCB (gIsX K) (dCons (dVar 2) (dCons (dC (.raw (.ref (He.ga K "BadText")))) dNil))) (dCall fn__law_same (dCons (dXf K "at" (dVar 2)) (dCons (dVar 1) dNil)))))
open Classical in
noncomputable def FT__law_is_bad_at (K : PySem.W.Frag) : FT := fun F w rs => match rs with
  | [.sh a] => match FT__law_caught K F w [] with
    | some (.rt (.sh e) s) => match gIsX K [e, .raw (.ref (He.ga K "BadText"))] with
      | some (.sh (.bl false)) => some (.rt (.sh (.bl false)) ⟨s.w, []⟩)
      | some (.sh (.bl true)) => match e with
        | .exn1 C m x => if XfC K C ∧ PySem.W.findIn K (.ref C) "at" = some none ∧ m = "at" then
            match fn__law_same s.w [.sh x, .sh a] with
            | some (.rt (.sh v) s2) => some (.rt (.sh v) ⟨s2.w, []⟩)
            | _ => none
          else none
        | _ => none
      | _ => none
    | some (.exc x w') => some (.exc x w')
    | _ => none
  | _ => none
theorem fle__law_is_bad_at (d : D) (F : W → Option Fl) : FLe ((FT__law_is_bad_at K).at d F) (runF 3 (t__law_is_bad_at K d F)) := by
  intro w rs
  match rs with
  | [] => simp [FT.at]
  | [r] => by_cases h : r = .sh d <;> simp [FT.at, FT__law_is_bad_at, h]
  | r :: a :: r3 :: rs => by_cases h : r = .sh d <;> cases a <;> simp [FT.at, FT__law_is_bad_at, h]
  | [r, a] =>
    by_cases h : r = .sh d
    · subst h
      match a with
      | .no => simp [FT.at, FT__law_is_bad_at]
      | .own _ => simp [FT.at, FT__law_is_bad_at]
      | .lck _ => simp [FT.at, FT__law_is_bad_at]
      | .dr => simp [FT.at, FT__law_is_bad_at]
      | .sh a =>
        simp only [FT.at, FT__law_is_bad_at, if_true]
        match hF : FT__law_caught K F w [] with
        | none => trivial
        | some (.nx s) => trivial
        | some (.bk s) => trivial
        | some (.ct s) => trivial
        | some (.rt .no s) => trivial
        | some (.rt (.own _) s) => trivial
        | some (.rt (.lck _) s) => trivial
        | some (.rt .dr s) => trivial
        | some (.exc x w') => simp [t__law_is_bad_at, FT.at, hF]
        | some (.rt (.sh e) s) =>
          cases hg : gIsX K [e, .raw (.ref (He.ga K "BadText"))] with
          | none => simp [hg]
          | some r => cases r with
            | sh v => cases v with
              | bl b => cases b with
                | false => simp [t__law_is_bad_at, FT.at, hF, hg]
                | true => cases e with
                  | exn1 C m x =>
                    by_cases hx : XfC K C ∧ PySem.W.findIn K (.ref C) "at" = some none ∧ m = "at"
                    · obtain ⟨hx1, hx2, rfl⟩ := hx
                      match hs : fn__law_same s.w [.sh x, .sh a] with
                      | some (.rt (.sh v) s2) => simp [t__law_is_bad_at, FT.at, hF, hg, hx1, hx2, hs]
                      | some (.rt .no s) => simp [hg, hx1, hx2, hs]
                      | some (.rt (.own _) s) => simp [hg, hx1, hx2, hs]
                      | some (.rt (.lck _) s) => simp [hg, hx1, hx2, hs]
                      | some (.rt .dr s) => simp [hg, hx1, hx2, hs]
                      | some (.nx _) => simp [hg, hx1, hx2, hs]
                      | some (.bk _) => simp [hg, hx1, hx2, hs]
                      | some (.ct _) => simp [hg, hx1, hx2, hs]
                      | some (.exc _ _) => simp [hg, hx1, hx2, hs]
                      | none => simp [hg, hx1, hx2, hs]
                    · simp [hg, hx]
                  | _ => simp [hg]
              | _ => simp [hg]
            | _ => simp [hg]
    · simp [FT.at, h]
theorem okt__law_is_bad_at (T : Tops P K mg) {kt : Nat} {f c : Addr} {q : Str} {vs : List V} {ds : List D} {F : W → Option Fl} (TH : Thk P w K mg base kt f c q vs ds F) :
    FnG P w K mg base (kt + 2) (He.ga K "_law_is_bad_at") T.fd__law_is_bad_at ["work", "at"] (spF K 2 ((FT__law_is_bad_at K).at (.fn f c q vs ds) F)) := by
  refine FnG.imp (sp := spF K 2 (runF 3 (t__law_is_bad_at K (.fn f c q vs ds) F))) ?_ (spF_le (fle__law_is_bad_at _ _))
  exact fnG_ok T.F__law_is_bad_at sc__law_is_bad_at (by decide) fun cdv A fs s H E hr =>
    (show DSs _ E (defBody s__law_is_bad_at) (t__law_is_bad_at K (.fn f c q vs ds) F) from (dss_cons (ds_set (i := 2) sc__law_is_bad_at.nd rfl (Or.inl rfl) (de_call (okt__law_caught T TH) hr (by rfl) T.m__law_caught T.F__law_caught.kp (bind__law_caught T) (takes_of rfl rfl rfl rfl) (da_cons (de_var 0) da_nil) (ALen.cons ALen.nil)))
      (dss_one (ds_ret (de_and (de_callB DL.call_isX ok_isX (by rfl) T.b_isinstance (by decide +kernel) (da_cons (de_var 2) (da_cons (de_cls (by rfl) T.m_BadText) da_nil))) (de_one (de_call ((ok__law_same T).mono (by omega)) hr (by rfl) T.m__law_same T.F__law_same.kp (bind__law_same T) (takes_of rfl rfl rfl rfl) (da_cons (de_xf (de_var 2)) (da_cons (de_var 1) da_nil)) (ALen.cons (ALen.cons ALen.nil)))))))))
/-! ### _law_is_too_many -/
noncomputable def t__law_is_too_many (K : PySem.W.Frag) (d : D) (F : W → Option Fl) : TSf :=
  dSeq (dSet 2 (dCall (FT.at (FT__law_caught K) d F) (dCons (dVar 0) dNil)))
    (dRet (dAndV (dCB (gIsX K) (dCons (dVar 2) (dCons (dC (.raw (.ref (He.ga K "TooMany")))) dNil))) (dCall fn__law_same (dCons (dXf K "most" (dVar 2)) (dCons (dVar 1) dNil)))))
open Classical in
noncomputable def FT__law_is_too_many (K : PySem.W.Frag) : FT := fun F w rs => match rs with
  | [.sh a] => match FT__law_caught K F w [] with
    | some (.rt (.sh e) s) => match gIsX K [e, .raw (.ref (He.ga K "TooMany"))] with
      | some (.sh (.bl false)) => some (.rt (.sh (.bl false)) ⟨s.w, []⟩)
      | some (.sh (.bl true)) => match e with
        | .exn1 C m x => if XfC K C ∧ PySem.W.findIn K (.ref C) "most" = some none ∧ m = "most" then
            match fn__law_same s.w [.sh x, .sh a] with
            | some (.rt (.sh v) s2) => some (.rt (.sh v) ⟨s2.w, []⟩)
            | _ => none
          else none
        | _ => none
      | _ => none
    | some (.exc x w') => some (.exc x w')
    | _ => none
  | _ => none
theorem fle__law_is_too_many (d : D) (F : W → Option Fl) : FLe ((FT__law_is_too_many K).at d F) (runF 3 (t__law_is_too_many K d F)) := by
  intro w rs
  match rs with
  | [] => simp [FT.at]
  | [r] => by_cases h : r = .sh d <;> simp [FT.at, FT__law_is_too_many, h]
  | r :: a :: r3 :: rs => by_cases h : r = .sh d <;> cases a <;> simp [FT.at, FT__law_is_too_many, h]
  | [r, a] =>
    by_cases h : r = .sh d
    · subst h
      match a with
      | .no => simp [FT.at, FT__law_is_too_many]
      | .own _ => simp [FT.at, FT__law_is_too_many]
      | .lck _ => simp [FT.at, FT__law_is_too_many]
      | .dr => simp [FT.at, FT__law_is_too_many]
      | .sh a =>
        simp only [FT.at, FT__law_is_too_many, if_true]
        match hF : FT__law_caught K F w [] with
        | none => trivial
        | some (.nx s) => trivial
        | some (.bk s) => trivial
        | some (.ct s) => trivial
        | some (.rt .no s) => trivial
        | some (.rt (.own _) s) => trivial
        | some (.rt (.lck _) s) => trivial
        | some (.rt .dr s) => trivial
        | some (.exc x w') => simp [t__law_is_too_many, FT.at, hF]
        | some (.rt (.sh e) s) =>
          cases hg : gIsX K [e, .raw (.ref (He.ga K "TooMany"))] with
          | none => simp [hg]
          | some r => cases r with
            | sh v => cases v with
              | bl b => cases b with
                | false => simp [t__law_is_too_many, FT.at, hF, hg]
                | true => cases e with
                  | exn1 C m x =>
                    by_cases hx : XfC K C ∧ PySem.W.findIn K (.ref C) "most" = some none ∧ m = "most"
                    · obtain ⟨hx1, hx2, rfl⟩ := hx
                      match hs : fn__law_same s.w [.sh x, .sh a] with
                      | some (.rt (.sh v) s2) => simp [t__law_is_too_many, FT.at, hF, hg, hx1, hx2, hs]
                      | some (.rt .no s) => simp [hg, hx1, hx2, hs]
                      | some (.rt (.own _) s) => simp [hg, hx1, hx2, hs]
                      | some (.rt (.lck _) s) => simp [hg, hx1, hx2, hs]
                      | some (.rt .dr s) => simp [hg, hx1, hx2, hs]
                      | some (.nx _) => simp [hg, hx1, hx2, hs]
                      | some (.bk _) => simp [hg, hx1, hx2, hs]
                      | some (.ct _) => simp [hg, hx1, hx2, hs]
                      | some (.exc _ _) => simp [hg, hx1, hx2, hs]
                      | none => simp [hg, hx1, hx2, hs]
                    · simp [hg, hx]
                  | _ => simp [hg]
              | _ => simp [hg]
            | _ => simp [hg]
    · simp [FT.at, h]
theorem okt__law_is_too_many (T : Tops P K mg) {kt : Nat} {f c : Addr} {q : Str} {vs : List V} {ds : List D} {F : W → Option Fl} (TH : Thk P w K mg base kt f c q vs ds F) :
    FnG P w K mg base (kt + 2) (He.ga K "_law_is_too_many") T.fd__law_is_too_many ["work", "most"] (spF K 2 ((FT__law_is_too_many K).at (.fn f c q vs ds) F)) := by
  refine FnG.imp (sp := spF K 2 (runF 3 (t__law_is_too_many K (.fn f c q vs ds) F))) ?_ (spF_le (fle__law_is_too_many _ _))
  exact fnG_ok T.F__law_is_too_many sc__law_is_too_many (by decide) fun cdv A fs s H E hr =>
    (show DSs _ E (defBody s__law_is_too_many) (t__law_is_too_many K (.fn f c q vs ds) F) from (dss_cons (ds_set (i := 2) sc__law_is_too_many.nd rfl (Or.inl rfl) (de_call (okt__law_caught T TH) hr (by rfl) T.m__law_caught T.F__law_caught.kp (bind__law_caught T) (takes_of rfl rfl rfl rfl) (da_cons (de_var 0) da_nil) (ALen.cons ALen.nil)))
      (dss_one (ds_ret (de_and (de_callB DL.call_isX ok_isX (by rfl) T.b_isinstance (by decide +kernel) (da_cons (de_var 2) (da_cons (de_cls (by rfl) T.m_TooMany) da_nil))) (de_one (de_call ((ok__law_same T).mono (by omega)) hr (by rfl) T.m__law_same T.F__law_same.kp (bind__law_same T) (takes_of rfl rfl rfl rfl) (da_cons (de_xf (de_var 2)) (da_cons (de_var 1) da_nil)) (ALen.cons (ALen.cons ALen.nil)))))))))
/-! ### _law_begun -/
def absI (z : Int) : Int := if z < 0 then -z else z
def begunF (ns : List Int) : List Int × List Int := ((ns.filter fun z => decide (1000000000000000000 ≤ absI z)).map fun z => absI z - 1000000000000000000, ns.map fun z => absI z % 2147483629)
noncomputable def tB1 : TSf := dSet 1 (dLc (iSq (dVar 0)) (gNm 2) (dTest (dOp gGe (dCB gAbs (dCons (dVar 2) dNil)) (dOp gPow (dC (.int 10)) (dC (.int 18))))) (dOp gSub (dCB gAbs (dCons (dVar 2) dNil)) (dOp gPow (dC (.int 10)) (dC (.int 18)))) [2])
noncomputable def tB2 : TEf := dLc (iSq (dVar 0)) (gNm 2) dYes (dOp gMod (dCB gInt (dCons (dCB gAbs (dCons (dVar 2) dNil)) dNil)) (dC (.int 2147483629))) [2]
theorem absI_nonneg (z : Int) : 0 ≤ absI z := by unfold absI; split <;> omega
theorem tB1_eq (w : W) (ns : List Int) (h : ns.length ≤ 16777216) : tB1 ⟨w, [.sh (.lst (ns.map .int)), .no, .no]⟩ = some (.nx ⟨w, [.sh (.lst (ns.map .int)), .own (.lst ((begunF ns).1.map .int)), .no]⟩) := by
  unfold tB1
  have key := lcS_pure (asg := gNm 2) (tt := dTest (dOp gGe (dCB gAbs (dCons (dVar 2) dNil)) (dOp gPow (dC (.int 10)) (dC (.int 18))))) (te := dOp gSub (dCB gAbs (dCons (dVar 2) dNil)) (dOp gPow (dC (.int 10)) (dC (.int 18)))) (vs := [2])
    (P := fun d => match d with | .int z => decide (1000000000000000000 ≤ absI z) | _ => false) (f := fun d => match d with | .int z => .int (absI z - 1000000000000000000) | _ => .non) (s0 := ⟨w, [.sh (.lst (ns.map .int)), .no, .no]⟩) (ns.map .int) []
    (fun d hd => by
      obtain ⟨z, _, rfl⟩ := List.mem_map.mp hd
      refine ⟨rfl, ⟨w, [.sh (.lst (ns.map .int)), .no, .sh (.int z)]⟩, ⟨w, [.sh (.lst (ns.map .int)), .no, .sh (.int z)]⟩, by simp, by simp [absI] <;> rfl, fun _ => ⟨.sh (.int (absI z - 1000000000000000000)), ⟨w, [.sh (.lst (ns.map .int)), .no, .sh (.int z)]⟩, by simp [absI], rfl, by simp⟩, fun _ => by simp⟩) (by simpa using h)
  have e : ((ns.map D.int).filter fun d => match d with | .int z => decide (1000000000000000000 ≤ absI z) | _ => false).map (fun d => match d with | .int z => D.int (absI z - 1000000000000000000) | _ => .non) = (begunF ns).1.map .int := by
    simp [begunF, List.filter_map, Function.comp_def]
  rw [e] at key
  have k2 := dLc_eq (ti := iSq (dVar 0)) (s := ⟨w, [.sh (.lst (ns.map .int)), .no, .no]⟩) (s1 := ⟨w, [.sh (.lst (ns.map .int)), .no, .no]⟩) (ds := ns.map .int) (c := false) rfl key
  unfold dSet
  rw [k2]
  simp
theorem tB2_eq (w : W) (ns : List Int) (l : Sl) (h : ns.length ≤ 16777216) : tB2 ⟨w, [.sh (.lst (ns.map .int)), l, .no]⟩ = some (.val (.own (.lst ((begunF ns).2.map .int))) ⟨w, [.sh (.lst (ns.map .int)), l, .no]⟩) := by
  unfold tB2
  have key := lcS_pure (asg := gNm 2) (tt := dYes) (te := dOp gMod (dCB gInt (dCons (dCB gAbs (dCons (dVar 2) dNil)) dNil)) (dC (.int 2147483629))) (vs := [2])
    (P := fun d => true) (f := fun d => match d with | .int z => .int (absI z % 2147483629) | _ => .non) (s0 := ⟨w, [.sh (.lst (ns.map .int)), l, .no]⟩) (ns.map .int) []
    (fun d hd => by
      obtain ⟨z, _, rfl⟩ := List.mem_map.mp hd
      refine ⟨rfl, ⟨w, [.sh (.lst (ns.map .int)), l, .sh (.int z)]⟩, ⟨w, [.sh (.lst (ns.map .int)), l, .sh (.int z)]⟩, by simp, by simp, fun _ => ⟨.sh (.int (absI z % 2147483629)), ⟨w, [.sh (.lst (ns.map .int)), l, .sh (.int z)]⟩, by simp [absI], rfl, by simp⟩, fun h => by cases h⟩) (by simpa using h)
  have e : ((ns.map D.int).filter fun d => true).map (fun d => match d with | .int z => D.int (absI z % 2147483629) | _ => .non) = (begunF ns).2.map .int := by
    rw [List.filter_eq_self.mpr (fun _ _ => rfl)]
    simp [begunF]
  rw [e] at key
  exact dLc_eq (s1 := ⟨w, [.sh (.lst (ns.map .int)), l, .no]⟩) (ds := ns.map .int) (c := false) rfl key
theorem ok__law_begun (T : Tops P K mg) : FnG P w K mg base 1 (He.ga K "_law_begun") T.fd__law_begun ["script"] (spBegun K begunF "turn") := by
  refine fnG_of T.F__law_begun sc__law_begun (fun vs H Q E ⟨a, ns, e, _⟩ => by rw [e]; rfl) fun cdv A fs s H vs Q E hr h => ?_
  obtain ⟨a, ns, rfl, sq, hl, q⟩ := h
  have ra : RepAll K (fun _ => False) H (ns.map V.int) (ns.map D.int) := by
    clear q hl sq
    induction ns with
    | nil => exact .nil
    | cons z r ih => exact .cons (.int z) ih
  have rs : Rep K (fun _ => False) H (.ref a) (.lst (ns.map .int)) := .lst (sq.elim (fun z => .inl ⟨z, id⟩) .inr) ra
  refine ⟨_, pss_cons ((ds_setLc (E := E) (i := 1) (own := [("grain", 2)]) rfl sc__law_begun.nd rfl rfl (by rfl) (di_seq (de_var 0)) (blkOk_by (N := ["script", "large", "grain"]) (sc := defScope s__law_begun) (by decide +kernel)) (fun s H C cl fp => dg_name (i := 2) sc__law_begun.nd rfl (Or.inl rfl) (by decide)) (fun s H C cl fp => dts_one (dt_cmp op_ge ok_ge (de_callB DL.call_abs1 ok_abs (by rfl) T.b_abs (by decide +kernel) (da_cons (de_var 2) da_nil)) (de_op op_pow ok_pow de_int de_int) (by rfl))) (fun s H C cl fp => de_op op_sub ok_sub (de_callB DL.call_abs1 ok_abs (by rfl) T.b_abs (by decide +kernel) (da_cons (de_var 2) da_nil)) (de_op op_pow ok_pow de_int de_int))).run ⟨fun _ => False, H, none⟩ [])
    (pss_one (ps_begun (E := E) (p7 := ⟨0, 0, 0, 0⟩) (G := ⟨fun _ => False, H, none⟩) (i := 1) (key := "turn") (by decide) rfl (by first | exact Or.inl rfl | exact Or.inr (Or.inl rfl) | exact Or.inr (Or.inr rfl)) (de_lc (own := [("grain", 2)]) rfl sc__law_begun.nd (di_seq (de_var 0)) (blkOk_by (N := ["script", "large", "grain"]) (sc := defScope s__law_begun) (by decide +kernel)) (fun s H C cl fp => dg_name (i := 2) sc__law_begun.nd rfl (Or.inl rfl) (by decide)) (fun s H C cl fp => dts_nil) (fun s H C cl fp => de_op op_mod ok_mod (de_callTy DL.call_int ok_int (by rfl) T.b_int (by decide +kernel) (da_cons (de_callB DL.call_abs1 ok_abs (by rfl) T.b_abs (by decide +kernel) (da_cons (de_var 2) da_nil)) da_nil)) de_int)))), ?_⟩
  refine ⟨⟨⟨[], [], 0, 0, "turn", []⟩, [.sh (.lst (ns.map .int)), .no, .no]⟩, SRep.enter (N := ["script", "large", "grain"]) (vs := [.ref a]) (rs := [.sh (.lst (ns.map .int))]) (fun b z => z.elim) ⟨fun z => absurd rfl z, fun r z => by cases z⟩ ⟨rs.av (fun b z => z.elim id fun ⟨r, z, _⟩ => by cases z), True.intro⟩ (by show 1 ≤ 3; omega), ?_⟩
  have e1 := tB1_eq ⟨[], [], 0, 0, "turn", []⟩ ns hl
  unfold tB1 at e1
  show LS _ _ _ _ _ ((dSet 1 _) _)
  refine Eq.mpr (congrArg _ e1) ?_
  exact fun σ' H' R => ⟨_, _, _, _, _, _, R, rfl, tB2_eq _ ns _ hl, rfl, intsOf_map _, intsOf_map _, fun d l c H' ch hd hl hc lc e1 e2 e3 => q d l c H' (ch.mono fun b z => by obtain ⟨r, z, _⟩ := z; cases z) hd hl hc lc e1 e2 e3⟩
end
end Gk11

end

section -- K11law
set_option Elab.async false
set_option linter.all false
set_option maxRecDepth 100000
set_option maxHeartbeats 4000000
/-! law of looksfit_k11_whole_tokens, behind its first row; printed by gen.py -/
namespace Gk11
open PySem PySem.Spec L2 DL
open PyProof.Rows (envOfC)
section
variable {P : Program} {w : World} {K : PySem.W.Frag} {mg : Str → Option Value} {base : Heap}
abbrev nL : List Str := ["script", "draw", "turn", "tokens", "text", "due", "at", "plain", "moved", "bad", "bent", "long", "token", "one", "place"]
def qL : Str := (envOfC "law" (defScope s_law) 0 0 .none).qual ++ "<lambda>"
noncomputable def t_law (K : PySem.W.Frag) (T0 : List (Addr × Str)) : TSf := (dSeq (dFor (iRg1 (dCons (dOp gAdd (dC (.int 8)) (dCB gMin (dCons (dCB gLen (dCons (dVar 0) dNil)) (dCons (dC (.int 12)) dNil)))) dNil)) (gNm 2) (dSeq (dSet 3 (dCall (fn__law_drawn_tokens) (dCons (dVar 1) dNil)))
    (dSeq (dSet 4 (dCall (fn__law_spread) (dCons (dVar 1) (dCons (dVar 3) dNil))))
    (dSeq (dSet 5 (dCB gTuple (dCons (dCutH (dCall (fn__law_scanned) (dCons (dVar 4) dNil)) (dNeg (dC (.int 1)))) dNil)))
    (dSeq (dIfS (dOr (dNot (dTest (dCall (fn__law_same) (dCons (dCall (fn_tokens_of K) (dCons (dVar 4) dNil)) (dCons (dVar 5) dNil))))) (dTest (dOp gNe (dLc (iSq (dVar 5)) (gTpl [(gNm 12), (gNm 6)]) dYes (dVar 12) [12, 6]) (dVar 3)))) (dRet (dC (.bl false))) dNext)
    (dSeq (dSet 7 (dBM isStr gJoin (dC (.str " ")) (dCons (dVar 3) dNil)))
    (dSeq (dIfS (dNot (dTest (dCall (fn__law_same) (dCons (dCall (fn_tokens_of K) (dCons (dVar 7) dNil)) (dCons (dCB gTuple (dCons (dCutH (dCall (fn__law_scanned) (dCons (dVar 7) dNil)) (dNeg (dC (.int 1)))) dNil)) dNil))))) (dRet (dC (.bl false))) dNext)
    (dSeq (dIfS (dTest (dOp gNe (dVar 5) (dTup dNil))) (dSeq (dSet 6 (dOp gIx (dCall (fn__law_pick) (dCons (dVar 1) (dCons (dVar 5) dNil))) (dC (.int 1))))
    (dSeq (dSet 8 (dCB gTuple (dCons (dLc (iSq (dVar 5)) (gTpl [(gNm 13), (gNm 14)]) dYes (dTup (dCons (dVar 13) (dCons (dOp gAdd (dVar 14) (dIf (dTest (dOp gGe (dVar 14) (dVar 6))) (dC (.int 1)) (dC (.int 0)))) dNil))) [13, 14]) dNil)))
    (dIfS (dNot (dTest (dCall (fn__law_same) (dCons (dCall (fn_tokens_of K) (dCons (dOp gAdd (dOp gAdd (dCutH (dVar 4) (dVar 6)) (dC (.str " "))) (dCutL (dVar 4) (dVar 6))) dNil)) (dCons (dVar 8) dNil))))) (dRet (dC (.bl false))) dNext))) dNext)
    (dSeq (dSet 6 (dCall (fn__law_take) (dCons (dVar 1) (dCons (dOp gAdd (dCB gLen (dCons (dVar 4) dNil)) (dC (.int 1))) dNil))))
    (dSeq (dSet 10 (dOp gAdd (dOp gAdd (dOp gAdd (dCutH (dVar 4) (dVar 6)) (dCall (fn__law_pick) (dCons (dVar 1) (dCons (dLst (dCons (dC (.str "A")) (dCons (dC (.str "Z")) (dCons (dC (.str "?")) (dCons (dC (.str "_")) (dCons (dC (.str ".")) (dCons (dC (.str "+")) (dCons (dC (.str "(")) (dCons (dC (.str "*")) (dCons (dC (.str "=")) (dCons (dC (.str "#")) (dCons (dC (.str "|")) dNil)))))))))))) dNil)))) (dCutL (dVar 4) (dVar 6))) (dCall (fn__law_pick) (dCons (dVar 1) (dCons (dLst (dCons (dC (.str "")) (dCons (dC (.str "?")) (dCons (dC (.str " A")) dNil)))) dNil)))))
    (dIfS (dNot (dTest (dCallLam T0 15 [10] (dCall (fn_tokens_of K) (dCons (dVar 10) dNil)) (FT__law_is_bad_at K) (dCons (dVar 6) dNil)))) (dRet (dC (.bl false))) dNext)))))))))))
    (dSeq (dFor (iSq (dLst (dCons (dC .non) (dCons (dC (.int 5)) (dCons (dTup (dCons (dC (.str "a")) dNil)) (dCons (dLst (dCons (dC (.str "a")) dNil)) (dCons (dC (.bl true)) dNil))))))) (gNm 9) (dIfS (dNot (dTest (dCallLam T0 15 [9] (dCall (fn_tokens_of K) (dCons (dVar 9) dNil)) (FT__law_is_bad_at K) (dCons (dC (.int 0)) dNil)))) (dRet (dC (.bl false))) dNext))
    (dSeq (dSet 11 (dOp gAdd (dOp gMul (dC (.str " ")) (dOp gAdd (dC (.int 99997)) (dCall (fn__law_take) (dCons (dVar 1) (dCons (dC (.int 2)) dNil))))) (dC (.str "abc"))))
    (dRet (dIf (dTest (dOp gEq (dCB gLen (dCons (dVar 11) dNil)) (dC (.int 100000)))) (dCall (fn__law_same) (dCons (dCall (fn_tokens_of K) (dCons (dVar 11) dNil)) (dCons (dTup (dCons (dTup (dCons (dC (.str "abc")) (dCons (dC (.int 99997)) dNil))) dNil)) dNil))) (dCallLam T0 15 [11] (dCall (fn_tokens_of K) (dCons (dVar 11) dNil)) (FT__law_is_too_many K) (dCons (dC (.int 100000)) dNil)))))))
theorem ds_law (T : Tops P K mg) {c Pt f : Addr} {T0 : List (Addr × Str)} (TB : LamX.TabB base mg c Pt) (hmem : (Pt, qL) ∈ T0) (huni : ∀ p ∈ T0, p.1 = Pt → p.2 = qL) {A : Around} {fs : List Env} {s : Shared} {H : Hp} {E : XK} (hr : Rm 6 (A.deeper (envOfC "law" (defScope s_law) s.heap.objs.size f (.ref c)))) :
    DSs (cxOf (L2.CX P w) P w K mg base nL "law" (defScope s_law) f (.ref c) A fs s H E) E (defBody s_law).tail (t_law K T0) :=
  (show DSs _ E (defBody s_law).tail (t_law K T0) from (dss_cons (ds_for (passes_of rfl) rfl (di_range1 (by rfl) T.b_range (da_cons (de_op op_addAll ok_add de_int (de_callB (DL.call_min rfl) ok_min (by rfl) T.b_min (by decide +kernel) (da_cons (de_callB DL.call_len ok_len (by rfl) T.b_len (by decide +kernel) (da_cons (de_var 0) da_nil)) (da_cons de_int da_nil)))) da_nil)) (vs := List.range 15) (dg_name (i := 2) sc_law.nd rfl (Or.inl rfl) (by decide)) (dss_cons (ds_set (i := 3) sc_law.nd rfl (Or.inl rfl) (de_call ((ok__law_drawn_tokens T).mono (by decide)) hr (by rfl) T.m__law_drawn_tokens T.F__law_drawn_tokens.kp (bind__law_drawn_tokens T) (takes_of rfl rfl rfl rfl) (da_cons (de_var 1) da_nil) (ALen.cons ALen.nil)))
    (dss_cons (ds_set (i := 4) sc_law.nd rfl (Or.inl rfl) (de_call ((ok__law_spread T).mono (by decide)) hr (by rfl) T.m__law_spread T.F__law_spread.kp (bind__law_spread T) (takes_of rfl rfl rfl rfl) (da_cons (de_var 1) (da_cons (de_var 3) da_nil)) (ALen.cons (ALen.cons ALen.nil))))
    (dss_cons (ds_set (i := 5) sc_law.nd rfl (Or.inl rfl) (de_callTy DL.call_tuple ok_tuple (by rfl) T.b_tuple (by decide +kernel) (da_cons (de_cutH (de_call ((ok__law_scanned T).mono (by decide)) hr (by rfl) T.m__law_scanned T.F__law_scanned.kp (bind__law_scanned T) (takes_of rfl rfl rfl rfl) (da_cons (de_var 4) da_nil) (ALen.cons ALen.nil)) (de_neg de_int)) da_nil)))
    (dss_cons (ds_if ((dw_or (dt_not (dt_val (de_call ((ok__law_same T).mono (by decide)) hr (by rfl) T.m__law_same T.F__law_same.kp (bind__law_same T) (takes_of rfl rfl rfl rfl) (da_cons (de_call ((ok_tokens_of T).mono (by decide)) hr (by rfl) T.m_tokens_of T.F_tokens_of.kp (bind_tokens_of T) (takes_of rfl rfl rfl rfl) (da_cons (de_var 4) da_nil) (ALen.cons ALen.nil)) (da_cons (de_var 5) da_nil)) (ALen.cons (ALen.cons ALen.nil))))) (dw_or1 (dt_cmp (op_neA hr) ok_ne (de_lc (own := [("token", 12), ("at", 6)]) rfl sc_law.nd (di_seq (de_var 5)) (blkOk_by (N := ["script", "draw", "turn", "tokens", "text", "due", "at", "plain", "moved", "bad", "bent", "long", "token", "one", "place"]) (sc := defScope s_law) (by decide +kernel)) (fun s H C cl fp => (dg_tupK (K := K) (n := 2) rfl rfl (dgs_cons (dg_name (i := 12) sc_law.nd rfl (Or.inl rfl) (by decide)) (dgs_cons (dg_name (i := 6) sc_law.nd rfl (Or.inl rfl) (by decide)) dgs_nil)))) (fun s H C cl fp => dts_nil) (fun s H C cl fp => (de_var 12))) (de_var 3) (by rfl))))).dt (dss_one (ds_ret de_bl)) dss_nil)
    (dss_cons (ds_set (i := 7) sc_law.nd rfl (Or.inl rfl) (de_join de_str (da_cons (de_var 3) da_nil)))
    (dss_cons (ds_if (dt_not (dt_val (de_call ((ok__law_same T).mono (by decide)) hr (by rfl) T.m__law_same T.F__law_same.kp (bind__law_same T) (takes_of rfl rfl rfl rfl) (da_cons (de_callKw ((ok_tokens_of T).mono (by decide)) hr (by rfl) T.m_tokens_of T.F_tokens_of.kp (kwb_tokens_of T) (takes_of rfl rfl rfl rfl) (de_var 7)) (da_cons (de_callTy DL.call_tuple ok_tuple (by rfl) T.b_tuple (by decide +kernel) (da_cons (de_cutH (de_call ((ok__law_scanned T).mono (by decide)) hr (by rfl) T.m__law_scanned T.F__law_scanned.kp (bind__law_scanned T) (takes_of rfl rfl rfl rfl) (da_cons (de_var 7) da_nil) (ALen.cons ALen.nil)) (de_neg de_int)) da_nil)) da_nil)) (ALen.cons (ALen.cons ALen.nil))))) (dss_one (ds_ret de_bl)) dss_nil)
    (dss_cons (ds_if (dt_cmp (op_neA hr) ok_ne (de_var 5) (de_tup da_nil) (by rfl)) (dss_cons (ds_set (i := 6) sc_law.nd rfl (Or.inr rfl) (de_ix (de_call ((ok__law_pick T).mono (by decide)) hr (by rfl) T.m__law_pick T.F__law_pick.kp (bind__law_pick T) (takes_of rfl rfl rfl rfl) (da_cons (de_var 1) (da_cons (de_var 5) da_nil)) (ALen.cons (ALen.cons ALen.nil))) de_int))
    (dss_cons (ds_set (i := 8) sc_law.nd rfl (Or.inl rfl) (de_callTy DL.call_tuple ok_tuple (by rfl) T.b_tuple (by decide +kernel) (da_cons (de_lc (own := [("one", 13), ("place", 14)]) rfl sc_law.nd (di_seq (de_var 5)) (blkOk_by (N := ["script", "draw", "turn", "tokens", "text", "due", "at", "plain", "moved", "bad", "bent", "long", "token", "one", "place"]) (sc := defScope s_law) (by decide +kernel)) (fun s H C cl fp => (dg_tupK (K := K) (n := 2) rfl rfl (dgs_cons (dg_name (i := 13) sc_law.nd rfl (Or.inl rfl) (by decide)) (dgs_cons (dg_name (i := 14) sc_law.nd rfl (Or.inl rfl) (by decide)) dgs_nil)))) (fun s H C cl fp => dts_nil) (fun s H C cl fp => (de_tup (da_cons (de_var 13) (da_cons (de_op op_addAll ok_add (de_var 14) (de_if (dt_cmp op_ge ok_ge (de_var 14) (de_var 6) (by rfl)) de_int de_int)) da_nil))))) da_nil)))
    (dss_one (ds_if (dt_not (dt_val (de_call ((ok__law_same T).mono (by decide)) hr (by rfl) T.m__law_same T.F__law_same.kp (bind__law_same T) (takes_of rfl rfl rfl rfl) (da_cons (de_call ((ok_tokens_of T).mono (by decide)) hr (by rfl) T.m_tokens_of T.F_tokens_of.kp (bind_tokens_of T) (takes_of rfl rfl rfl rfl) (da_cons (de_op op_addAll ok_add (de_op op_addAll ok_add (de_cutH (de_var 4) (de_var 6)) de_str) (de_cutL (de_var 4) (de_var 6))) da_nil) (ALen.cons ALen.nil)) (da_cons (de_var 8) da_nil)) (ALen.cons (ALen.cons ALen.nil))))) (dss_one (ds_ret de_bl)) dss_nil)))) dss_nil)
    (dss_cons (ds_set (i := 6) sc_law.nd rfl (Or.inr rfl) (de_call ((ok__law_take T).mono (by decide)) hr (by rfl) T.m__law_take T.F__law_take.kp (bind__law_take T) (takes_of rfl rfl rfl rfl) (da_cons (de_var 1) (da_cons (de_op op_addAll ok_add (de_callB DL.call_len ok_len (by rfl) T.b_len (by decide +kernel) (da_cons (de_var 4) da_nil)) de_int) da_nil)) (ALen.cons (ALen.cons ALen.nil))))
    (dss_cons (ds_set (i := 10) sc_law.nd rfl (Or.inr rfl) (de_op op_addAll ok_add (de_op op_addAll ok_add (de_op op_addAll ok_add (de_cutH (de_var 4) (de_var 6)) (de_call ((ok__law_pick T).mono (by decide)) hr (by rfl) T.m__law_pick T.F__law_pick.kp (bind__law_pick T) (takes_of rfl rfl rfl rfl) (da_cons (de_var 1) (da_cons (de_lst (da_cons de_str (da_cons de_str (da_cons de_str (da_cons de_str (da_cons de_str (da_cons de_str (da_cons de_str (da_cons de_str (da_cons de_str (da_cons de_str (da_cons de_str da_nil)))))))))))) da_nil)) (ALen.cons (ALen.cons ALen.nil)))) (de_cutL (de_var 4) (de_var 6))) (de_call ((ok__law_pick T).mono (by decide)) hr (by rfl) T.m__law_pick T.F__law_pick.kp (bind__law_pick T) (takes_of rfl rfl rfl rfl) (da_cons (de_var 1) (da_cons (de_lst (da_cons de_str (da_cons de_str (da_cons de_str da_nil)))) da_nil)) (ALen.cons (ALen.cons ALen.nil)))))
    (dss_one (ds_if (dt_not (dt_val (de_callLam (kt := 3) (fun base f c' q vs ds F old TH => (okt__law_is_bad_at T TH).mono (by decide)) hr (fun _ => rfl) (by rfl) T.m__law_is_bad_at T.F__law_is_bad_at.kp (bind__law_is_bad_at T) (takes_of rfl rfl rfl rfl) (da_cons (de_var 6) da_nil) (ALen.cons ALen.nil) TB (by rfl) hmem huni (show LamX.LamS (defScope s_law) _ from LamX.lamS_by (by decide +kernel)) (by rfl) (by intros; rfl) (fun base A outer s H E f c' old hr2 => (de_call ((ok_tokens_of T).mono (by decide)) hr2 (by rfl) T.m_tokens_of T.F_tokens_of.kp (bind_tokens_of T) (takes_of rfl rfl rfl rfl) (da_cons (de_var 10) da_nil) (ALen.cons ALen.nil)))))) (dss_one (ds_ret de_bl)) dss_nil))))))))))))
    (dss_cons (ds_for (passes_of rfl) rfl (di_seq (de_lst (da_cons de_non (da_cons de_int (da_cons (de_tup (da_cons de_str da_nil)) (da_cons (de_lst (da_cons de_str da_nil)) (da_cons de_bl da_nil))))))) (vs := List.range 15) (dg_name (i := 9) sc_law.nd rfl (Or.inr rfl) (by decide)) (dss_one (ds_if (dt_not (dt_val (de_callLam (kt := 3) (fun base f c' q vs ds F old TH => (okt__law_is_bad_at T TH).mono (by decide)) hr (fun _ => rfl) (by rfl) T.m__law_is_bad_at T.F__law_is_bad_at.kp (bind__law_is_bad_at T) (takes_of rfl rfl rfl rfl) (da_cons de_int da_nil) (ALen.cons ALen.nil) TB (by rfl) hmem huni (show LamX.LamS (defScope s_law) _ from LamX.lamS_by (by decide +kernel)) (by rfl) (by intros; rfl) (fun base A outer s H E f c' old hr2 => (de_call ((ok_tokens_of T).mono (by decide)) hr2 (by rfl) T.m_tokens_of T.F_tokens_of.kp (bind_tokens_of T) (takes_of rfl rfl rfl rfl) (da_cons (de_var 9) da_nil) (ALen.cons ALen.nil)))))) (dss_one (ds_ret de_bl)) dss_nil)))
    (dss_cons (ds_set (i := 11) sc_law.nd rfl (Or.inr rfl) (de_op op_addAll ok_add (de_op op_mulAll ok_mul de_str (de_op op_addAll ok_add de_int (de_call ((ok__law_take T).mono (by decide)) hr (by rfl) T.m__law_take T.F__law_take.kp (bind__law_take T) (takes_of rfl rfl rfl rfl) (da_cons (de_var 1) (da_cons de_int da_nil)) (ALen.cons (ALen.cons ALen.nil))))) de_str))
    (dss_one (ds_ret (de_if (dt_cmp (op_eqA hr) ok_eq (de_callB DL.call_len ok_len (by rfl) T.b_len (by decide +kernel) (da_cons (de_var 11) da_nil)) de_int (by rfl)) (de_call ((ok__law_same T).mono (by decide)) hr (by rfl) T.m__law_same T.F__law_same.kp (bind__law_same T) (takes_of rfl rfl rfl rfl) (da_cons (de_call ((ok_tokens_of T).mono (by decide)) hr (by rfl) T.m_tokens_of T.F_tokens_of.kp (bind_tokens_of T) (takes_of rfl rfl rfl rfl) (da_cons (de_var 11) da_nil) (ALen.cons ALen.nil)) (da_cons (de_tup (da_cons (de_tup (da_cons de_str (da_cons de_int da_nil))) da_nil)) da_nil)) (ALen.cons (ALen.cons ALen.nil))) (de_callLam (kt := 3) (fun base f c' q vs ds F old TH => (okt__law_is_too_many T TH).mono (by decide)) hr (fun _ => rfl) (by rfl) T.m__law_is_too_many T.F__law_is_too_many.kp (bind__law_is_too_many T) (takes_of rfl rfl rfl rfl) (da_cons de_int da_nil) (ALen.cons ALen.nil) TB (by rfl) hmem huni (show LamX.LamS (defScope s_law) _ from LamX.lamS_by (by decide +kernel)) (by rfl) (by intros; rfl) (fun base A outer s H E f c' old hr2 => (de_call ((ok_tokens_of T).mono (by decide)) hr2 (by rfl) T.m_tokens_of T.F_tokens_of.kp (bind_tokens_of T) (takes_of rfl rfl rfl rfl) (da_cons (de_var 11) da_nil) (ALen.cons ALen.nil)))))))))))
end
end Gk11

end

section -- K11end
set_option Elab.async false
set_option linter.all false
set_option maxRecDepth 100000
set_option maxHeartbeats 4000000
namespace Gk11
open PySem PySem.Spec L2 DL
open PyProof.Rows (envOfC)
section
variable {P : Program} {w : World} {K : PySem.W.Frag} {mg : Str → Option Value} {base : Heap}
theorem ok_law (T : Tops P K mg) {c Pt : Addr} {n : Nat} (hc : T.fd_law.code = .ref c) (TB : LamX.TabB base mg c Pt) (hn : n ≤ 16777216)
    (ht : ∀ ns : List Int, ns.length ≤ n → ∃ s', t_law K [(Pt, qL)] (lawS "turn" begunF [(Pt, qL)] 13 ns) = some (.rt (.sh (.bl true)) s')) :
    FnG P w K mg base 7 (He.ga K "law") T.fd_law ["script"] (spLaw K Pt n) :=
  fnG_law (N := ["turn", "tokens", "text", "due", "at", "plain", "moved", "bad", "bent", "long", "token", "one", "place"]) T.F_law sc_law hc rfl hn rfl
    (fun A fs s H E hr => ps_set (i := 1) sc_law.nd rfl (Or.inl rfl) (pe_callG ((ok__law_begun T).mono (by decide)) hr (by rfl) T.m__law_begun T.F__law_begun.kp (bind__law_begun T) (fun σ => passAt (W := fun cls d _ H => E cls d H) (takes_of rfl rfl rfl rfl) σ) (pa_cons (pe_var (i := 0) rfl (Or.inl rfl)) pa_nil)))
    (fun A fs s H E hr => ds_law T TB (List.mem_singleton.mpr rfl) (fun p hp _ => by rw [List.mem_singleton.mp hp]) hr) ht
end
end Gk11

end

section -- K11head
set_option Elab.async false
set_option linter.all false
set_option maxRecDepth 100000
set_option maxHeartbeats 0
/-! the head of looksfit_k11_whole_tokens; printed by head.py -/
namespace Gk11
open PySem PySem.Spec PyProof.Rows L2 DL
def d_need_few : He.DefD := ⟨("need_few", none), "need_few", "need_few", defArgs s_need_few, defBody s_need_few, defScope s_need_few, [], []⟩
def d_row_end : He.DefD := ⟨("row_end", none), "row_end", "row_end", defArgs s_row_end, defBody s_row_end, defScope s_row_end, [], []⟩
def d_tokens_told : He.DefD := ⟨("tokens_told", none), "tokens_told", "tokens_told", defArgs s_tokens_told, defBody s_tokens_told, defScope s_tokens_told, [], []⟩
def d_need_text : He.DefD := ⟨("need_text", none), "need_text", "need_text", defArgs s_need_text, defBody s_need_text, defScope s_need_text, [], []⟩
def d_tokens_of : He.DefD := ⟨("tokens_of", none), "tokens_of", "tokens_of", defArgs s_tokens_of, defBody s_tokens_of, defScope s_tokens_of, [], []⟩
def d__law_begun : He.DefD := ⟨("_law_begun", none), "_law_begun", "_law_begun", defArgs s__law_begun, defBody s__law_begun, defScope s__law_begun, [], []⟩
def d__law_mixed : He.DefD := ⟨("_law_mixed", none), "_law_mixed", "_law_mixed", defArgs s__law_mixed, defBody s__law_mixed, defScope s__law_mixed, [], []⟩
def d__law_take : He.DefD := ⟨("_law_take", none), "_law_take", "_law_take", defArgs s__law_take, defBody s__law_take, defScope s__law_take, [], []⟩
def d__law_pick : He.DefD := ⟨("_law_pick", none), "_law_pick", "_law_pick", defArgs s__law_pick, defBody s__law_pick, defScope s__law_pick, [], []⟩
def d__law_caught : He.DefD := ⟨("_law_caught", none), "_law_caught", "_law_caught", defArgs s__law_caught, defBody s__law_caught, defScope s__law_caught, [], []⟩
def d__law_same : He.DefD := ⟨("_law_same", none), "_law_same", "_law_same", defArgs s__law_same, defBody s__law_same, defScope s__law_same, [], []⟩
def d__law_is_bad_at : He.DefD := ⟨("_law_is_bad_at", none), "_law_is_bad_at", "_law_is_bad_at", defArgs s__law_is_bad_at, defBody s__law_is_bad_at, defScope s__law_is_bad_at, [], []⟩
def d__law_is_too_many : He.DefD := ⟨("_law_is_too_many", none), "_law_is_too_many", "_law_is_too_many", defArgs s__law_is_too_many, defBody s__law_is_too_many, defScope s__law_is_too_many, [], []⟩
def d__law_scanned : He.DefD := ⟨("_law_scanned", none), "_law_scanned", "_law_scanned", defArgs s__law_scanned, defBody s__law_scanned, defScope s__law_scanned, [], []⟩
def d__law_spread : He.DefD := ⟨("_law_spread", none), "_law_spread", "_law_spread", defArgs s__law_spread, defBody s__law_spread, defScope s__law_spread, [], []⟩
def d__law_drawn_tokens : He.DefD := ⟨("_law_drawn_tokens", none), "_law_drawn_tokens", "_law_drawn_tokens", defArgs s__law_drawn_tokens, defBody s__law_drawn_tokens, defScope s__law_drawn_tokens, [], []⟩
def d_law : He.DefD := ⟨("law", none), "law", "law", defArgs s_law, defBody s_law, defScope s_law, [], []⟩
def fn : List He.DefD := [d_need_few, d_row_end, d_tokens_told, d_need_text, d_tokens_of, d__law_begun, d__law_mixed, d__law_take, d__law_pick, d__law_caught, d__law_same, d__law_is_bad_at, d__law_is_too_many, d__law_scanned, d__law_spread, d__law_drawn_tokens, d_law]
def fa : List He.Fa := [.glo "need_few", .glo "row_end", .glo "tokens_told", .glo "need_text", .glo "tokens_of", .glo "_law_begun", .glo "_law_mixed", .glo "_law_take", .glo "_law_pick", .glo "_law_caught", .glo "_law_same", .glo "_law_is_bad_at", .glo "_law_is_too_many", .glo "_law_scanned", .glo "_law_spread", .glo "_law_drawn_tokens", .glo "law", .glo "LookError", .glo "TooMany", .glo "BadText", .free "abs", .free "int", .free "isinstance", .free "len", .free "list", .free "min", .free "range", .free "repr", .free "str", .free "tuple", .str "BLANKS" " \n", .str "FIGURES" "0123456789", .str "LETTERS" "abcdefghijklmnopqrstuvwxyz", .str "NO_TOKEN" "?", .str "SIGNS" ",;:/-", .int "MOST_SIGNS" 100000]
def initOf : Stmt → Stmt
  | .ClassDef _ _ _ body _ _ _ _ _ _ _ => body.getD 0 (.Pass ⟨0, 0, 0, 0⟩)
  | s => s
abbrev i_TooMany : Stmt := initOf (top 2)
abbrev i_BadText : Stmt := initOf (top 3)
def sv : List SupD := [(fun K => He.ma K (He.ga K "TooMany") "__init__", some (PySem.Str.ofString "__init__", "TooMany.__init__", defArgs i_TooMany, .stmts (defBody i_TooMany), defScope i_TooMany, mainGlobals, [PySem.Str.ofString "__class__"], Value.none, Value.none, builtinsNs)), (fun K => He.ma K (He.ga K "BadText") "__init__", some (PySem.Str.ofString "__init__", "BadText.__init__", defArgs i_BadText, .stmts (defBody i_BadText), defScope i_BadText, mainGlobals, [PySem.Str.ofString "__class__"], Value.none, Value.none, builtinsNs))]
def ex (K : PySem.W.Frag) : Bool := supOk K PySem.Challenge.pw_looksfit_k11_whole_tokens.main.file "TooMany.__init__" "most" (He.ga K "TooMany") (He.ma K (He.ga K "TooMany") "__init__") && (excB K (He.ga K "TooMany") && (decide (PySem.W.exmOne K (.ref (He.ga K "TooMany")) (.ref (He.ga K "LookError")) = some true) && (decide (PySem.W.kitOne K (.ref (He.ga K "TooMany")) (.ref (He.ga K "TooMany")) = some true) && (decide (PySem.W.kitOne K (.ref (He.ga K "TooMany")) (.ref (He.ga K "BadText")) = some false) && (decide (PySem.W.kitOne K (.type "NoneType") (.ref (He.ga K "TooMany")) = some false) && (supOk K PySem.Challenge.pw_looksfit_k11_whole_tokens.main.file "BadText.__init__" "at" (He.ga K "BadText") (He.ma K (He.ga K "BadText") "__init__") && (excB K (He.ga K "BadText") && (decide (PySem.W.exmOne K (.ref (He.ga K "BadText")) (.ref (He.ga K "LookError")) = some true) && (decide (PySem.W.kitOne K (.ref (He.ga K "BadText")) (.ref (He.ga K "TooMany")) = some false) && (decide (PySem.W.kitOne K (.ref (He.ga K "BadText")) (.ref (He.ga K "BadText")) = some true) && (decide (PySem.W.kitOne K (.type "NoneType") (.ref (He.ga K "BadText")) = some false))))))))))))
def tf : List He.Defn := [("law", none)]
abbrev R : PySem.W.OpenRow := PySem.W.OpenLaw.row PySem.Challenge.rw_looksfit_k11_whole_tokens
abbrev hk : PySem.W.Hook := hookL 6 fa fn tf ex sv
def ob (s : PySem.W.SharedT) : AlL := obsL 6 fa fn tf ex sv (HandSHeadRun.getT s)
theorem ob_eq (s : PySem.W.SharedT) : ob s = hk.obs s.abs := obsL_eq (HandSHeadRun.getT_eq s)
def names : List Str := ["need_few", "row_end", "tokens_told", "need_text", "tokens_of", "_law_begun", "_law_mixed", "_law_take", "_law_pick", "_law_caught", "_law_same", "_law_is_bad_at", "_law_is_too_many", "_law_scanned", "_law_spread", "_law_drawn_tokens", "LookError", "TooMany", "BadText", "LETTERS", "FIGURES", "SIGNS", "BLANKS", "NO_TOKEN", "MOST_SIGNS"]
theorem run (w : World) : HandSHeadRun.RunEq R (PySem.W.view R.prog [29]) hk ob 1500 ["need_few", "row_end", "tokens_told", "need_text", "tokens_of", "_law_begun", "_law_mixed", "_law_take", "_law_pick", "_law_caught", "_law_same", "_law_is_bad_at", "_law_is_too_many", "_law_scanned", "_law_spread", "_law_drawn_tokens", "LookError", "TooMany", "BadText", "LETTERS", "FIGURES", "SIGNS", "BLANKS", "NO_TOKEN", "MOST_SIGNS"] w := by
  intro os
  kernel_rfl
structure KF (K : PySem.W.Frag) : Prop where
  e_TooMany : L2.ExcC K (He.ga K "TooMany")
  x_TooMany : XfC K (He.ga K "TooMany")
  n_TooMany : PySem.W.findIn K (.ref (He.ga K "TooMany")) "most" = some none
  m_TooMany_LookError : PySem.W.exmOne K (.ref (He.ga K "TooMany")) (.ref (He.ga K "LookError")) = some true
  k_TooMany_TooMany : PySem.W.kitOne K (.ref (He.ga K "TooMany")) (.ref (He.ga K "TooMany")) = some true
  k_TooMany_BadText : PySem.W.kitOne K (.ref (He.ga K "TooMany")) (.ref (He.ga K "BadText")) = some false
  z_TooMany : PySem.W.kitOne K (.type "NoneType") (.ref (He.ga K "TooMany")) = some false
  e_BadText : L2.ExcC K (He.ga K "BadText")
  x_BadText : XfC K (He.ga K "BadText")
  n_BadText : PySem.W.findIn K (.ref (He.ga K "BadText")) "at" = some none
  m_BadText_LookError : PySem.W.exmOne K (.ref (He.ga K "BadText")) (.ref (He.ga K "LookError")) = some true
  k_BadText_TooMany : PySem.W.kitOne K (.ref (He.ga K "BadText")) (.ref (He.ga K "TooMany")) = some false
  k_BadText_BadText : PySem.W.kitOne K (.ref (He.ga K "BadText")) (.ref (He.ga K "BadText")) = some true
  z_BadText : PySem.W.kitOne K (.type "NoneType") (.ref (He.ga K "BadText")) = some false
theorem kf_of {K : PySem.W.Frag} (h : ex K = true) : KF K := by
  unfold ex at h
  simp only [Bool.and_eq_true] at h
  obtain ⟨b0, b1, b2, b3, b4, b5, b6, b7, b8, b9, b10, b11⟩ := h
  exact ⟨(excB_ok b1).1, (excB_ok b1).2, by
    have z := b0
    unfold supOk at z
    simp only [Bool.and_eq_true] at z
    exact He.eqO_ok z.2.2.2.2.2.1, of_decide_eq_true b2, of_decide_eq_true b3, of_decide_eq_true b4, of_decide_eq_true b5, (excB_ok b7).1, (excB_ok b7).2, by
    have z := b6
    unfold supOk at z
    simp only [Bool.and_eq_true] at z
    exact He.eqO_ok z.2.2.2.2.2.1, of_decide_eq_true b8, of_decide_eq_true b9, of_decide_eq_true b10, of_decide_eq_true b11⟩
theorem row_TooMany : SupRow "most" "more than can be worked out" (defArgs i_TooMany) (.stmts (defBody i_TooMany)) (defScope i_TooMany) := ⟨⟨_, _, rfl⟩, ⟨_, _, _, _, _, _, _, _, _, _, _, rfl, rfl⟩, rfl⟩
theorem row_BadText : SupRow "at" "a text is wrong" (defArgs i_BadText) (.stmts (defBody i_BadText)) (defScope i_BadText) := ⟨⟨_, _, rfl⟩, ⟨_, _, _, _, _, _, _, _, _, _, _, rfl, rfl⟩, rfl⟩
section
variable {K : PySem.W.Frag} {mg : Str → Option Value} {h : Heap} {w : World}
theorem sup_TooMany (c : SaysL fa fn tf ex sv w h K) : SupT K PySem.Challenge.pw_looksfit_k11_whole_tokens (He.ga K "TooMany") (He.ma K (He.ga K "TooMany") "__init__") (ccOf K (He.ma K (He.ga K "TooMany") "__init__")) (cdaOf K (He.ma K (He.ga K "TooMany") "__init__")) "TooMany.__init__" "most" "more than can be worked out" := by
  have z := c.x.more
  unfold ex at z
  simp only [Bool.and_eq_true] at z
  obtain ⟨b0, b1, b2, b3, b4, b5, b6, b7, b8, b9, b10, b11⟩ := z
  exact supT_of b0 (c.sup 0 rfl) row_TooMany (by decide) (by decide) (by decide) (by decide) (by rfl) (by intros; rfl)
theorem sup_BadText (c : SaysL fa fn tf ex sv w h K) : SupT K PySem.Challenge.pw_looksfit_k11_whole_tokens (He.ga K "BadText") (He.ma K (He.ga K "BadText") "__init__") (ccOf K (He.ma K (He.ga K "BadText") "__init__")) (cdaOf K (He.ma K (He.ga K "BadText") "__init__")) "BadText.__init__" "at" "a text is wrong" := by
  have z := c.x.more
  unfold ex at z
  simp only [Bool.and_eq_true] at z
  obtain ⟨b0, b1, b2, b3, b4, b5, b6, b7, b8, b9, b10, b11⟩ := z
  exact supT_of b6 (c.sup 1 rfl) row_BadText (by decide) (by decide) (by decide) (by decide) (by rfl) (by intros; rfl)
theorem tops_of (X : K.In h) (G : h.Ns mainGlobals mg) (c : SaysL fa fn tf ex sv w h K) : ∃ T : Tops PySem.Challenge.pw_looksfit_k11_whole_tokens K mg, T.fd_law.code = .ref (He.cT K ("law", none)).1 := by
  have cd := c.x.t.d
  obtain ⟨g_need_few, F_need_few⟩ := cd.def_ 0 (d := d_need_few) rfl
  obtain ⟨g_row_end, F_row_end⟩ := cd.def_ 1 (d := d_row_end) rfl
  obtain ⟨g_tokens_told, F_tokens_told⟩ := cd.def_ 2 (d := d_tokens_told) rfl
  obtain ⟨g_need_text, F_need_text⟩ := cd.def_ 3 (d := d_need_text) rfl
  obtain ⟨g_tokens_of, F_tokens_of⟩ := cd.def_ 4 (d := d_tokens_of) rfl
  obtain ⟨g__law_begun, F__law_begun⟩ := cd.def_ 5 (d := d__law_begun) rfl
  obtain ⟨g__law_mixed, F__law_mixed⟩ := cd.def_ 6 (d := d__law_mixed) rfl
  obtain ⟨g__law_take, F__law_take⟩ := cd.def_ 7 (d := d__law_take) rfl
  obtain ⟨g__law_pick, F__law_pick⟩ := cd.def_ 8 (d := d__law_pick) rfl
  obtain ⟨g__law_caught, F__law_caught⟩ := cd.def_ 9 (d := d__law_caught) rfl
  obtain ⟨g__law_same, F__law_same⟩ := cd.def_ 10 (d := d__law_same) rfl
  obtain ⟨g__law_is_bad_at, F__law_is_bad_at⟩ := cd.def_ 11 (d := d__law_is_bad_at) rfl
  obtain ⟨g__law_is_too_many, F__law_is_too_many⟩ := cd.def_ 12 (d := d__law_is_too_many) rfl
  obtain ⟨g__law_scanned, F__law_scanned⟩ := cd.def_ 13 (d := d__law_scanned) rfl
  obtain ⟨g__law_spread, F__law_spread⟩ := cd.def_ 14 (d := d__law_spread) rfl
  obtain ⟨g__law_drawn_tokens, F__law_drawn_tokens⟩ := cd.def_ 15 (d := d__law_drawn_tokens) rfl
  obtain ⟨g_law, F_law⟩ := cd.def_ 16 (d := d_law) rfl
  obtain ⟨oc, od, dV, kV, doc, pm, an, cdv, ct, osl, e, lk, hcd, _, _⟩ := F_law.ex
  obtain ⟨a, ea⟩ := He.codeIn_ref hcd
  have e2 : g_law.code = .ref a := by rw [e, ea] <;> rfl
  have e3 : (He.cT K ("law", none)).1 = a := He.codeOf_eq (p := ("law", none)) lk e2
  exact ⟨⟨g_need_few, F_need_few, He.glo_ok X G (cd.fact 0 (f := .glo "need_few") rfl), g_row_end, F_row_end, He.glo_ok X G (cd.fact 1 (f := .glo "row_end") rfl), g_tokens_told, F_tokens_told, He.glo_ok X G (cd.fact 2 (f := .glo "tokens_told") rfl), g_need_text, F_need_text, He.glo_ok X G (cd.fact 3 (f := .glo "need_text") rfl), g_tokens_of, F_tokens_of, He.glo_ok X G (cd.fact 4 (f := .glo "tokens_of") rfl), g__law_begun, F__law_begun, He.glo_ok X G (cd.fact 5 (f := .glo "_law_begun") rfl), g__law_mixed, F__law_mixed, He.glo_ok X G (cd.fact 6 (f := .glo "_law_mixed") rfl), g__law_take, F__law_take, He.glo_ok X G (cd.fact 7 (f := .glo "_law_take") rfl), g__law_pick, F__law_pick, He.glo_ok X G (cd.fact 8 (f := .glo "_law_pick") rfl), g__law_caught, F__law_caught, He.glo_ok X G (cd.fact 9 (f := .glo "_law_caught") rfl), g__law_same, F__law_same, He.glo_ok X G (cd.fact 10 (f := .glo "_law_same") rfl), g__law_is_bad_at, F__law_is_bad_at, He.glo_ok X G (cd.fact 11 (f := .glo "_law_is_bad_at") rfl), g__law_is_too_many, F__law_is_too_many, He.glo_ok X G (cd.fact 12 (f := .glo "_law_is_too_many") rfl), g__law_scanned, F__law_scanned, He.glo_ok X G (cd.fact 13 (f := .glo "_law_scanned") rfl), g__law_spread, F__law_spread, He.glo_ok X G (cd.fact 14 (f := .glo "_law_spread") rfl), g__law_drawn_tokens, F__law_drawn_tokens, He.glo_ok X G (cd.fact 15 (f := .glo "_law_drawn_tokens") rfl), g_law, F_law, He.glo_ok X G (cd.fact 16 (f := .glo "law") rfl), He.free_ok X G (cd.fact 20 (f := .free "abs") rfl), He.free_ok X G (cd.fact 21 (f := .free "int") rfl), He.free_ok X G (cd.fact 22 (f := .free "isinstance") rfl), He.free_ok X G (cd.fact 23 (f := .free "len") rfl), He.free_ok X G (cd.fact 24 (f := .free "list") rfl), He.free_ok X G (cd.fact 25 (f := .free "min") rfl), He.free_ok X G (cd.fact 26 (f := .free "range") rfl), He.free_ok X G (cd.fact 27 (f := .free "repr") rfl), He.free_ok X G (cd.fact 28 (f := .free "str") rfl), He.free_ok X G (cd.fact 29 (f := .free "tuple") rfl), He.str_ok X G (cd.fact 30 (f := .str "BLANKS" " \n") rfl), He.str_ok X G (cd.fact 31 (f := .str "FIGURES" "0123456789") rfl), He.str_ok X G (cd.fact 32 (f := .str "LETTERS" "abcdefghijklmnopqrstuvwxyz") rfl), He.int_ok X G (cd.fact 35 (f := .int "MOST_SIGNS" 100000) rfl), He.str_ok X G (cd.fact 33 (f := .str "NO_TOKEN" "?") rfl), He.str_ok X G (cd.fact 34 (f := .str "SIGNS" ",;:/-") rfl), He.glo_ok X G (cd.fact 17 (f := .glo "LookError") rfl), He.glo_ok X G (cd.fact 18 (f := .glo "TooMany") rfl), _, _, sup_TooMany c, He.glo_ok X G (cd.fact 19 (f := .glo "BadText") rfl), _, _, sup_BadText c⟩, by rw [e3]; exact e2⟩
end
end Gk11
open PySem PySem.W PySem.Calls PyProof.Rows
theorem Gk11.holds_of (math : ∀ (K : PySem.W.Frag) (Pt : Addr) (ns : List Int), Gk11.KF K → ns.length ≤ 63 → ∃ s', Gk11.t_law K [(Pt, Gk11.qL)] (DL.lawS "turn" Gk11.begunF [(Pt, Gk11.qL)] 13 ns) = some (.rt (.sh (.bl true)) s')) : PySem.Challenge.rw_looksfit_k11_whole_tokens.Holds := by
  w_on; o_law
  refine HandSHeadRun.head_any (r := OpenLaw.row PySem.Challenge.rw_looksfit_k11_whole_tokens) (q := view (OpenLaw.row PySem.Challenge.rw_looksfit_k11_whole_tokens).prog [29]) (H := Gk11.hk) (ob := Gk11.ob) (M := 1500) (loose := ["need_few", "row_end", "tokens_told", "need_text", "tokens_of", "_law_begun", "_law_mixed", "_law_take", "_law_pick", "_law_caught", "_law_same", "_law_is_bad_at", "_law_is_too_many", "_law_scanned", "_law_spread", "_law_drawn_tokens", "LookError", "TooMany", "BadText", "LETTERS", "FIGURES", "SIGNS", "BLANKS", "NO_TOKEN", "MOST_SIGNS"]) (d := HandSHeadRun.topDef (OpenLaw.row PySem.Challenge.rw_looksfit_k11_whole_tokens).prog 29) (kwd := []) Gk11.ob_eq
    (by kernel_rfl) (fun s => by kernel_rfl) Gk11.run (by kernel_rfl) (by kernel_rfl) (by kernel_rfl) (by rfl) (by first | assumption | decide +kernel) (by decide +kernel) ⟨rfl, rfl, rfl, rfl, rfl, by decide +kernel⟩ ?hw ?hc
  case hw => w_witness2
  case hc =>
    refine DL.walk_law (l := PySem.Challenge.rw_looksfit_k11_whole_tokens) (n := 63) (k := 7) (x := "script") rfl (by decide) (by kernel_rfl) ⟨⟨rfl, by decide, by decide⟩, rfl⟩ ?F
    intro w mg fa h Y G hmg0
    obtain ⟨K, KX, c⟩ := Y
    have hmg : mg ("law" : PySem.Str) = some (.ref fa) := by
      have e : (HandSHeadRun.topDef (OpenLaw.row PySem.Challenge.rw_looksfit_k11_whole_tokens).prog 29).name = ("law" : PySem.Str) := by kernel_rfl
      rw [← e]
      exact hmg0
    obtain ⟨T, hc⟩ := Gk11.tops_of KX G c
    have ef : He.ga K "law" = fa := by
      have e := T.m_law.symm.trans hmg
      injection e with e
      injection e
    have kf := Gk11.kf_of c.x.more
    have mem : (("law", none) : He.Defn) ∈ Gk11.tf := List.mem_singleton.mpr rfl
    have b := L2.FunD.bindsA (ps := ["script"]) T.F_law fun _ _ _ _ _ _ us hl => match us, hl with | [_], _ => rfl
    refine ⟨K, T.fd_law, (He.cT K ("law", none)).1, (He.cT K ("law", none)).2, KX, c.x.empty _ mem, c.x.out _ mem, PySem.W.codeHd_of_K KX (c.x.hd _ mem), fun s u => b s [u] rfl, fun base KB GB TB => ?_⟩
    rw [← ef]
    exact Gk11.ok_law T hc TB (by decide) fun ns hl => math K _ ns kf hl

end

section -- K11m1
set_option Elab.async false
set_option linter.all false
set_option maxRecDepth 100000
set_option maxHeartbeats 4000000
namespace Gk11
open PySem PySem.Spec L2 DL
/-- what the draws keep: the record's key, the tables, the count of turns -/
structure Good (T0 : List (Addr × Str)) (m : Int) (w : W) : Prop where
  key : w.key = "turn"
  T : w.T = T0
  lo : 0 ≤ w.turn
  hi : w.turn ≤ m
theorem Good.mono {T0 : List (Addr × Str)} {m n : Int} {w : W} (g : Good T0 m w) (h : m ≤ n) : Good T0 n w := ⟨g.key, g.T, g.lo, Int.le_trans g.hi h⟩
/-- a slot that holds nothing or an int -/
def Sn (x : Option Int) : Sl := match x with
  | none => .no
  | some z => .sh (.int z)
@[simp] theorem Sn_unl (x : Option Int) : (Sn x).unl = Sn x := by cases x <;> rfl
@[simp] theorem Sn_frz (x : Option Int) : (Sn x).frz = Sn x := by cases x <;> rfl
noncomputable def tIn : TSf := dSet 4 (dOp gMod (dCB gInt (dCons (dOp gAdd (dOp gAdd (dOp gMul (dVar 4) (dC (.int 69621))) (dVar 5)) (dVar 1)) dNil)) (dVar 3))
theorem mixed_in (w : W) (t f p : Int) (hp : 0 < p) : ∀ (zs : List Int) (b : Int) (x : Option Int), ∃ (b' : Int) (x' : Option Int),
    forCS (gNm 5) tIn w.cells zs ⟨w, [.dr, .sh (.int t), .sh (.int f), .sh (.int p), .sh (.int b), Sn x]⟩ = some (.nx ⟨w, [.dr, .sh (.int t), .sh (.int f), .sh (.int p), .sh (.int b'), Sn x']⟩) ∧ (b' = b ∨ (0 ≤ b' ∧ b' < p))
  | [], b, x => ⟨b, x, by simp [forCS], .inl rfl⟩
  | z :: zs, b, x => by
    obtain ⟨b', x', e, h⟩ := mixed_in w t f p hp zs ((b * 69621 + z + t) % p) (some z)
    refine ⟨b', x', ?_, .inr ?_⟩
    · unfold forCS
      rw [← e]
      simp [tIn, hp, Sn]
    · rcases h with h | h
      · rw [h]
        exact ⟨Int.emod_nonneg _ (by omega), Int.emod_lt_of_pos _ hp⟩
      · exact h
noncomputable def tOut : TSf := dSeq (dSet 4 (dOp gAdd (dOp gMul (dC (.int 48271)) (dVar 1)) (dOp gFdiv (dVar 3) (dC (.int 37)))))
    (dSeq (dForC 0 (gNm 5) tIn) (dSet 2 (dOp gAdd (dOp gMul (dVar 2) (dC (.int 2147483648))) (dOp gMod (dCB gInt (dCons (dOp gPow (dVar 4) (dC (.int 3))) dNil)) (dVar 3)))))
theorem mixed_out (w : W) (t f p : Int) (hp : 0 < p) (hp2 : p < 2147483648) (ht : 0 ≤ t) (ht2 : t ≤ 281474976710656) (y x : Option Int) : ∃ (f' : Int) (y' x' : Option Int),
    tOut ⟨w, [.dr, .sh (.int t), .sh (.int f), .sh (.int p), Sn y, Sn x]⟩ = some (.nx ⟨w, [.dr, .sh (.int t), .sh (.int f'), .sh (.int p), Sn y', Sn x']⟩) := by
  obtain ⟨b', x', e, h⟩ := mixed_in w t f p hp w.cells (48271 * t + p / 37) x
  have hb : b'.natAbs < 18446744073709551616 := by
    have h0 : 0 ≤ p / 37 := Int.ediv_nonneg (by omega) (by decide)
    have h1 : p / 37 ≤ p := Int.ediv_le_self _ (by omega)
    rcases h with h | h <;> omega
  refine ⟨f * 2147483648 + b' ^ 3 % p, some b', x', ?_⟩
  have e1 : (dSet 4 (dOp gAdd (dOp gMul (dC (.int 48271)) (dVar 1)) (dOp gFdiv (dVar 3) (dC (.int 37))))) ⟨w, [.dr, .sh (.int t), .sh (.int f), .sh (.int p), Sn y, Sn x]⟩ = some (.nx ⟨w, [.dr, .sh (.int t), .sh (.int f), .sh (.int p), .sh (.int (48271 * t + p / 37)), Sn x]⟩) := by
    cases x <;> simp [Sn]
  have e2 : dForC 0 (gNm 5) tIn ⟨w, [.dr, .sh (.int t), .sh (.int f), .sh (.int p), .sh (.int (48271 * t + p / 37)), Sn x]⟩ = some (.nx ⟨w, [.dr, .sh (.int t), .sh (.int f), .sh (.int p), .sh (.int b'), Sn x']⟩) := by
    unfold dForC
    exact e
  unfold tOut
  show dSeq _ _ _ = _
  unfold dSeq
  rw [e1]
  show dSeq _ _ _ = _
  unfold dSeq
  rw [e2]
  cases x' <;> simp [hp, hb, Sn]
theorem mixed_eq {T0 : List (Addr × Str)} {m : Int} (hm : m < 281474976710656) (w : W) (g : Good T0 m w) : ∃ (z : Int) (w' : W) (e : List Sl), fn__law_mixed w [.dr] = some (.rt (.sh (.int z)) ⟨w', e⟩) ∧ Good T0 (m + 1) w' := by
  have hk : keyOk "turn" = true := by decide
  let w' : W := { w with turn := w.turn + 1 }
  have ht : 0 ≤ w.turn + 1 := by have := g.lo; omega
  have ht2 : w.turn + 1 ≤ 281474976710656 := by have := g.hi; omega
  obtain ⟨f1, y1, x1, e1⟩ := mixed_out w' (w.turn + 1) 0 2147483647 (by decide) (by decide) ht ht2 none none
  obtain ⟨f2, y2, x2, e2⟩ := mixed_out w' (w.turn + 1) f1 2147483629 (by decide) (by decide) ht ht2 y1 x1
  obtain ⟨f3, y3, x3, e3⟩ := mixed_out w' (w.turn + 1) f2 2147483587 (by decide) (by decide) ht ht2 y2 x2
  obtain ⟨f4, y4, x4, e4⟩ := mixed_out w' (w.turn + 1) f3 2147483579 (by decide) (by decide) ht ht2 y3 x3
  refine ⟨f4, w', [.dr, .sh (.int (w.turn + 1)), .sh (.int f4), .sh (.int 2147483579), Sn y4, Sn x4], ?_, ⟨g.key, g.T, ht, by have := g.hi; show w.turn + 1 ≤ m + 1; omega⟩⟩
  have hf : forS (gNm 3) tOut [.int 2147483647, .int 2147483629, .int 2147483587, .int 2147483579] ⟨w', [.dr, .sh (.int (w.turn + 1)), .sh (.int 0), .no, .no, .no]⟩ = some (.nx ⟨w', [.dr, .sh (.int (w.turn + 1)), .sh (.int f4), .sh (.int 2147483579), Sn y4, Sn x4]⟩) := by
    rw [forS_nx (gNm_eq (by simp)) e1, forS_nx (gNm_eq (by simp)) e2, forS_nx (gNm_eq (by simp)) e3, forS_nx (gNm_eq (by simp)) e4, forS_nil]
  have h1 : (dPar 1 2 (dOp gAdd (dDrTurn 0 "turn") (dC (.int 1))) (dC (.int 0))) ⟨w, [.dr, .no, .no, .no, .no, .no]⟩ = some (.nx ⟨w, [.dr, .sh (.int (w.turn + 1)), .sh (.int 0), .no, .no, .no]⟩) := by
    simp [g.key, hk]
  have h2 : (dDrSetTurn 0 "turn" (dVar 1)) ⟨w, [.dr, .sh (.int (w.turn + 1)), .sh (.int 0), .no, .no, .no]⟩ = some (.nx ⟨w', [.dr, .sh (.int (w.turn + 1)), .sh (.int 0), .no, .no, .no]⟩) := by
    simp [g.key, hk, w']
  unfold fn__law_mixed
  refine runF_rt ?_
  unfold t__law_mixed
  show dSeq _ _ ⟨w, [.dr, .no, .no, .no, .no, .no]⟩ = _
  rw [dSeq_nx h1, dSeq_nx h2]
  refine Eq.trans (dSeq_nx (dFor_eq (s1 := ⟨w', [.dr, .sh (.int (w.turn + 1)), .sh (.int 0), .no, .no, .no]⟩) (c := false) rfl hf)) ?_
  cases y4 <;> cases x4 <;> simp [Sn]
/-- the part behind the record's rest -/
theorem take_rest {T0 : List (Addr × Str)} {m : Int} (w : W) (g : Good T0 m w) (high : Int) (h : 0 < high) (h2 : high < 1073741824) : ∃ (x : Int) (w' : W) (e : List Sl),
    (dSeq (dSet 2 (dOp gMod (dCB gInt (dCons (dDrRest 0) dNil)) (dVar 1))) (dSeq (dDrSetRest 0 (dOp gFdiv (dCB gInt (dCons (dDrRest 0) dNil)) (dVar 1))) (dRet (dVar 2)))) ⟨w, [.dr, .sh (.int high), .no]⟩ = some (.rt (.sh (.int x)) ⟨w', e⟩) ∧ Good T0 m w' ∧ 0 ≤ x ∧ x < high := by
  have hk : keyOk w.key = true := by rw [g.key]; decide
  refine ⟨w.rest % high, { w with rest := w.rest / high }, [.dr, .sh (.int high), .sh (.int (w.rest % high))], ?_, ⟨g.key, g.T, g.lo, g.hi⟩, Int.emod_nonneg _ (by omega), Int.emod_lt_of_pos _ h⟩
  have e1 : (dSet 2 (dOp gMod (dCB gInt (dCons (dDrRest 0) dNil)) (dVar 1))) ⟨w, [.dr, .sh (.int high), .no]⟩ = some (.nx ⟨w, [.dr, .sh (.int high), .sh (.int (w.rest % high))]⟩) := by
    simp [h]
  have e2 : (dDrSetRest 0 (dOp gFdiv (dCB gInt (dCons (dDrRest 0) dNil)) (dVar 1))) ⟨w, [.dr, .sh (.int high), .sh (.int (w.rest % high))]⟩ = some (.nx ⟨{ w with rest := w.rest / high }, [.dr, .sh (.int high), .sh (.int (w.rest % high))]⟩) := by
    simp [h, h2, hk]
  rw [dSeq_nx e1, dSeq_nx e2]
  simp
theorem take_eq {T0 : List (Addr × Str)} {m : Int} (hm : m < 281474976710656) (w : W) (g : Good T0 m w) (high : Int) (h : 0 < high) (h2 : high < 1073741824) : ∃ (x : Int) (w' : W) (e : List Sl),
    fn__law_take w [.dr, .sh (.int high)] = some (.rt (.sh (.int x)) ⟨w', e⟩) ∧ Good T0 (m + 1) w' ∧ 0 ≤ x ∧ x < high := by
  have hk : keyOk w.key = true := by rw [g.key]; decide
  have first : ∃ w1, (dIfS (dTest (dOp gEq (dDrRest 0) (dC (.int 0)))) (dDrSetRest 0 (dIf (tDrNe 0) (dDrPop 0) (dCall (fn__law_mixed) (dCons (dVar 0) dNil)))) dNext) ⟨w, [.dr, .sh (.int high), .no]⟩ = some (.nx ⟨w1, [.dr, .sh (.int high), .no]⟩) ∧ Good T0 (m + 1) w1 := by
    by_cases hr : w.rest = 0
    · cases hl : w.large with
      | cons y r =>
        refine ⟨{ w with large := r, rest := y }, ?_, ⟨g.key, g.T, g.lo, by have := g.hi; show w.turn ≤ m + 1; omega⟩⟩
        simp [hr, hl, hk]
      | nil =>
        obtain ⟨z, w', e, e1, g1⟩ := mixed_eq hm w g
        have hk1 : keyOk w'.key = true := by rw [g1.key]; decide
        refine ⟨{ w' with rest := z }, ?_, ⟨g1.key, g1.T, g1.lo, g1.hi⟩⟩
        simp [hr, hl, e1, hk1]
    · exact ⟨w, by simp [hr], g.mono (by omega)⟩
  obtain ⟨w1, e1, g1⟩ := first
  obtain ⟨x, w', e, e2, g2, b1, b2⟩ := take_rest w1 g1 high h h2
  refine ⟨x, w', e, ?_, g2, b1, b2⟩
  unfold fn__law_take
  refine runF_rt ?_
  unfold t__law_take
  show dSeq _ _ ⟨w, [.dr, .sh (.int high), .no]⟩ = _
  rw [dSeq_nx e1, e2]
theorem pick_eq {T0 : List (Addr × Str)} {m : Int} (hm : m < 281474976710656) (w : W) (g : Good T0 m w) (l : List D) (hl : l ≠ []) (h2 : l.length < 1073741824) : ∃ (x : D) (w' : W) (e : List Sl),
    fn__law_pick w [.dr, .sh (.lst l)] = some (.rt (.sh x) ⟨w', e⟩) ∧ Good T0 (m + 1) w' ∧ x ∈ l := by
  obtain ⟨x, w', e, e1, g1, b1, b2⟩ := take_eq hm w g l.length (by have := List.length_pos_iff.mpr hl; omega) (by omega)
  have hx : x.toNat < l.length := by omega
  have ha : atI l x = some l[x.toNat] := by
    have e2 : x = ((x.toNat : Nat) : Int) := by omega
    have e3 := atI_nat (xs := l) (List.getElem?_eq_getElem hx)
    rwa [← e2] at e3
  refine ⟨l[x.toNat], w', [.dr, .sh (.lst l)], ?_, g1, List.getElem_mem hx⟩
  unfold fn__law_pick
  refine runF_rt ?_
  unfold t__law_pick
  show dRet _ ⟨w, [.dr, .sh (.lst l)]⟩ = _
  simp [e1, ha]
theorem pick_tup {T0 : List (Addr × Str)} {m : Int} (hm : m < 281474976710656) (w : W) (g : Good T0 m w) (l : List D) (hl : l ≠ []) (h2 : l.length < 1073741824) : ∃ (x : D) (w' : W) (e : List Sl),
    fn__law_pick w [.dr, .sh (.tup l)] = some (.rt (.sh x) ⟨w', e⟩) ∧ Good T0 (m + 1) w' ∧ x ∈ l := by
  obtain ⟨x, w', e, e1, g1, b1, b2⟩ := take_eq hm w g l.length (by have := List.length_pos_iff.mpr hl; omega) (by omega)
  have hx : x.toNat < l.length := by omega
  have ha : atI l x = some l[x.toNat] := by
    have e2 : x = ((x.toNat : Nat) : Int) := by omega
    have e3 := atI_nat (xs := l) (List.getElem?_eq_getElem hx)
    rwa [← e2] at e3
  refine ⟨l[x.toNat], w', [.dr, .sh (.tup l)], ?_, g1, List.getElem_mem hx⟩
  unfold fn__law_pick
  refine runF_rt ?_
  unfold t__law_pick
  show dRet _ ⟨w, [.dr, .sh (.tup l)]⟩ = _
  simp [e1, ha]
end Gk11

end

section -- K11m2
set_option Elab.async false
set_option linter.all false
set_option maxRecDepth 100000
set_option maxHeartbeats 4000000
namespace Gk11
open PySem PySem.Spec L2 DL
theorem inS_one (c : Nat) (z : Str) : inS ⟨#[c]⟩ z = some (decide (c ∈ z.cps.toList)) := by
  unfold inS
  simp
/-- how far a row of such signs reaches -/
def rowEnd (L Z : List Nat) (i : Nat) : Nat := i + ((L.drop i).takeWhile (fun c => decide (c ∈ Z))).length
theorem rowEnd_in {L Z : List Nat} {i : Nat} (h : i < L.length) (hz : L[i] ∈ Z) : rowEnd L Z i = rowEnd L Z (i + 1) := by
  unfold rowEnd
  rw [List.drop_eq_getElem_cons h, List.takeWhile_cons_of_pos (by simpa using hz)]
  simp only [List.length_cons]
  omega
theorem rowEnd_out {L Z : List Nat} {i : Nat} (h : i < L.length) (hz : L[i] ∉ Z) : rowEnd L Z i = i := by
  unfold rowEnd
  rw [List.drop_eq_getElem_cons h, List.takeWhile_cons_of_neg (by simpa using hz)]
  rfl
theorem rowEnd_end {L Z : List Nat} {i : Nat} (h : L.length ≤ i) : rowEnd L Z i = i := by
  unfold rowEnd
  rw [List.drop_eq_nil_of_le h]
  rfl
noncomputable def cRow : TTf := dAnd (dTest (dOp gLt (dVar 1) (dCB gLen (dCons (dVar 0) dNil)))) (dTest (dOp gIn (dOp gIx (dVar 0) (dVar 1)) (dVar 2)))
theorem row_loop (w : W) (t z : Str) (hl : t.cps.size ≤ 16777216) : ∀ (k i : Nat), t.cps.size - i = k → i ≤ t.cps.size →
    whileS cRow (dAugI 1 (fun i j => i + j) (dC (.int 1))) ⟨w, [.sh (.str t), .sh (.int i), .sh (.str z)]⟩ = some (.nx ⟨w, [.sh (.str t), .sh (.int (rowEnd t.cps.toList z.cps.toList i)), .sh (.str z)]⟩) := by
  have hl' : t.length ≤ 16777216 := hl
  have hs : t.length = t.cps.size := rfl
  intro k
  induction k with
  | zero =>
    intro i h1 h2
    rw [rowEnd_end (by simp; omega)]
    rw [while_no (s1 := ⟨w, [.sh (.str t), .sh (.int i), .sh (.str z)]⟩) (by
      have hn : ¬ i < t.cps.size := by omega
      simp [cRow, hl', hs, hl, hn])]
    simp
  | succ k ih =>
    intro i h1 h2
    have hi : i < t.cps.toList.length := by simp; omega
    have hi2 : i < t.cps.size := by omega
    have ha : atI t.cps.toList (i : Int) = some t.cps.toList[i] := atI_nat (List.getElem?_eq_getElem hi)
    by_cases hz : t.cps.toList[i] ∈ z.cps.toList
    · rw [rowEnd_in hi hz]
      rw [while_yes (s1 := ⟨w, [.sh (.str t), .sh (.int i), .sh (.str z)]⟩) (s2 := ⟨w, [.sh (.str t), .sh (.int (i + 1 : Nat)), .sh (.str z)]⟩) (by
        have hz2 : t.cps[i] ∈ z.cps := by simpa using hz
        simp [cRow, hl', hs, hl, hi2, ha, inS_one, hz2]) (by simp)]
      exact ih (i + 1) (by omega) (by omega)
    · rw [rowEnd_out hi hz]
      rw [while_no (s1 := ⟨w, [.sh (.str t), .sh (.int i), .sh (.str z)]⟩) (by
        have hz2 : ¬ t.cps[i] ∈ z.cps := by simpa using hz
        simp [cRow, hl', hs, hl, hi2, ha, inS_one, hz2])]
      simp
theorem row_end_eq (w : W) (t z : Str) (hl : t.cps.size ≤ 16777216) (i : Nat) (hi : i ≤ t.cps.size) : ∃ e, fn_row_end w [.sh (.str t), .sh (.int i), .sh (.str z)] = some (.rt (.sh (.int (rowEnd t.cps.toList z.cps.toList i))) ⟨w, e⟩) := by
  refine ⟨[.sh (.str t), .sh (.int (rowEnd t.cps.toList z.cps.toList i)), .sh (.str z)], ?_⟩
  unfold fn_row_end
  refine runF_rt ?_
  unfold t_row_end
  show dSeq _ _ ⟨w, [.sh (.str t), .sh (.int i), .sh (.str z)]⟩ = _
  refine Eq.trans (dSeq_nx (row_loop w t z hl _ i rfl hi)) ?_
  simp
end Gk11

end

section -- K11m3
set_option Elab.async false
set_option linter.all false
set_option maxRecDepth 100000
set_option maxHeartbeats 4000000
namespace Gk11
open PySem PySem.Spec L2 DL
abbrev sLet : Str := "abcdefghijklmnopqrstuvwxyz"
abbrev sFig : Str := "0123456789"
abbrev sSgn : Str := ",;:/-"
abbrev sBlk : Str := " \n"
def zLet : List Nat := sLet.cps.toList
def zFig : List Nat := sFig.cps.toList
def zSgn : List Nat := sSgn.cps.toList
def zBlk : List Nat := sBlk.cps.toList
/-- a token as the program tells it -/
def tok (x : Str) (i : Nat) : D := .tup [.str x, .int i]
noncomputable def tkB1 : TSf := dIfS (dTest (dOp gIn (dOp gIx (dVar 0) (dVar 2)) (dC (.str " \n")))) (dSeq (dAugI 2 (fun i j => i + j) (dC (.int 1))) dCont) dNext
noncomputable def tkB2 : TSf := dSet 3 (dOp gAdd (dVar 2) (dC (.int 1)))
noncomputable def tkB3 : TSf := dIfS (dTest (dOp gIn (dOp gIx (dVar 0) (dVar 2)) (dC (.str "abcdefghijklmnopqrstuvwxyz")))) (dSet 3 (dCall (fn_row_end) (dCons (dVar 0) (dCons (dVar 2) (dCons (dC (.str "abcdefghijklmnopqrstuvwxyz")) dNil))))) (dIfS (dTest (dOp gIn (dOp gIx (dVar 0) (dVar 2)) (dC (.str "0123456789")))) (dSet 3 (dCall (fn_row_end) (dCons (dVar 0) (dCons (dVar 2) (dCons (dC (.str "0123456789")) dNil))))) (dIfS (dTest (dOp gNotIn (dOp gIx (dVar 0) (dVar 2)) (dC (.str ",;:/-")))) (dSeq (dApp 1 (dTup (dCons (dC (.str "?")) (dCons (dVar 2) dNil)))) (dRet (dVar 1))) dNext))
noncomputable def tkB4 : TSf := dApp 1 (dTup (dCons (dCutLH (dVar 0) (dVar 2) (dVar 3)) (dCons (dVar 2) dNil)))
noncomputable def tkBody : TSf := dSeq tkB1 (dSeq tkB2 (dSeq tkB3 (dSeq tkB4 (dSet 2 (dVar 3)))))
def tkS (w : W) (t : Str) (acc : List D) (i : Int) (x : Option Int) : S := ⟨w, [.sh (.str t), .own (.lst acc), .sh (.int i), Sn x]⟩
section
variable {w : W} {t : Str} {acc : List D} {i : Nat} {x : Option Int}
theorem ix_eq (hi : i < t.cps.toList.length) : atI t.cps.toList (i : Int) = some t.cps.toList[i] := atI_nat (List.getElem?_eq_getElem hi)
theorem tk_blank (hl : t.cps.size ≤ 16777216) {c : Nat} (ha : atI t.cps.toList (i : Int) = some c) (h : c ∈ zBlk) : tkBody (tkS w t acc i x) = some (.ct (tkS w t acc (i + 1 : Nat) x)) := by
  have hl' : t.length ≤ 16777216 := hl
  have hb : tkB1 (tkS w t acc i x) = some (.ct (tkS w t acc (i + 1 : Nat) x)) := by
    have h2 : inS ⟨#[c]⟩ sBlk = some true := by rw [inS_one]; exact congrArg some (decide_eq_true h)
    cases x <;> simp [tkB1, tkS, Sn, hl', ha, h2]
  unfold tkBody dSeq
  rw [hb]
  rfl
theorem tk_B1 (hl : t.cps.size ≤ 16777216) {c : Nat} (ha : atI t.cps.toList (i : Int) = some c) (h : c ∉ zBlk) : tkB1 (tkS w t acc i x) = some (.nx (tkS w t acc i x)) := by
  have hl' : t.length ≤ 16777216 := hl
  have h2 : inS ⟨#[c]⟩ sBlk = some false := by rw [inS_one]; exact congrArg some (decide_eq_false h)
  cases x <;> simp [tkB1, tkS, Sn, hl', ha, h2]
theorem tk_B2 : tkB2 (tkS w t acc i x) = some (.nx (tkS w t acc i (some ((i : Int) + 1)))) := by
  cases x <;> simp [tkB2, tkS, Sn]
theorem tk_let (hl : t.cps.size ≤ 16777216) (hi : i ≤ t.cps.size) {c : Nat} (ha : atI t.cps.toList (i : Int) = some c) (h : c ∈ zLet) : tkB3 (tkS w t acc i x) = some (.nx (tkS w t acc i (some (rowEnd t.cps.toList zLet i)))) := by
  have hl' : t.length ≤ 16777216 := hl
  have h2 : inS ⟨#[c]⟩ sLet = some true := by rw [inS_one]; exact congrArg some (decide_eq_true h)
  obtain ⟨e, hr⟩ := row_end_eq w t sLet hl i hi
  cases x <;> simp [tkB3, tkS, Sn, hl', ha, h2, hr, zLet]
theorem tk_fig (hl : t.cps.size ≤ 16777216) (hi : i ≤ t.cps.size) {c : Nat} (ha : atI t.cps.toList (i : Int) = some c) (h0 : c ∉ zLet) (h : c ∈ zFig) : tkB3 (tkS w t acc i x) = some (.nx (tkS w t acc i (some (rowEnd t.cps.toList zFig i)))) := by
  have hl' : t.length ≤ 16777216 := hl
  have h1 : inS ⟨#[c]⟩ sLet = some false := by rw [inS_one]; exact congrArg some (decide_eq_false h0)
  have h2 : inS ⟨#[c]⟩ sFig = some true := by rw [inS_one]; exact congrArg some (decide_eq_true h)
  obtain ⟨e, hr⟩ := row_end_eq w t sFig hl i hi
  cases x <;> simp [tkB3, tkS, Sn, hl', ha, h1, h2, hr, zFig]
theorem tk_sgn (hl : t.cps.size ≤ 16777216) {c : Nat} (ha : atI t.cps.toList (i : Int) = some c) (h0 : c ∉ zLet) (h1 : c ∉ zFig) (h : c ∈ zSgn) : tkB3 (tkS w t acc i x) = some (.nx (tkS w t acc i x)) := by
  have hl' : t.length ≤ 16777216 := hl
  have e1 : inS ⟨#[c]⟩ sLet = some false := by rw [inS_one]; exact congrArg some (decide_eq_false h0)
  have e2 : inS ⟨#[c]⟩ sFig = some false := by rw [inS_one]; exact congrArg some (decide_eq_false h1)
  have e3 : inS ⟨#[c]⟩ sSgn = some true := by rw [inS_one]; exact congrArg some (decide_eq_true h)
  cases x <;> simp [tkB3, tkS, Sn, hl', ha, e1, e2, e3]
theorem tk_bad (hl : t.cps.size ≤ 16777216) (hacc : acc.length < 16777216) {c : Nat} (ha : atI t.cps.toList (i : Int) = some c) (h0 : c ∉ zLet) (h1 : c ∉ zFig) (h : c ∉ zSgn) : ∃ s', tkB3 (tkS w t acc i x) = some (.rt (.sh (.lst (acc ++ [tok "?" i]))) s') ∧ s'.w = w := by
  have hl' : t.length ≤ 16777216 := hl
  have e1 : inS ⟨#[c]⟩ sLet = some false := by rw [inS_one]; exact congrArg some (decide_eq_false h0)
  have e2 : inS ⟨#[c]⟩ sFig = some false := by rw [inS_one]; exact congrArg some (decide_eq_false h1)
  have e3 : inS ⟨#[c]⟩ sSgn = some false := by rw [inS_one]; exact congrArg some (decide_eq_false h)
  refine ⟨⟨w, [.sh (.str t), .lck (.lst (acc ++ [tok "?" i])), .sh (.int i), Sn x]⟩, ?_, rfl⟩
  cases x <;> simp [tkB3, tkS, Sn, hl', ha, e1, e2, e3, tok, hacc]
end
end Gk11

end

section -- K11m4
set_option Elab.async false
set_option linter.all false
set_option maxRecDepth 100000
set_option maxHeartbeats 4000000
namespace Gk11
open PySem PySem.Spec L2 DL
def sub (L : List Nat) (i j : Nat) : Str := ⟨((L.drop i).take (j - i)).toArray⟩
theorem sIx_nat (n d k : Nat) : HT.sIx n d (some (k : Int)) = min k n := by
  unfold HT.sIx
  simp
  try omega
theorem cut_nat (z : Str) (i j : Nat) (h1 : i ≤ z.length) (h2 : j ≤ z.length) : cutS z (some (i : Int)) (some (j : Int)) = sub z.cps.toList i j := by
  unfold cutS sub
  rw [sIx_nat, sIx_nat, Nat.min_eq_left h1, Nat.min_eq_left h2]
theorem rowEnd_le {L Z : List Nat} {i : Nat} (h : i ≤ L.length) : rowEnd L Z i ≤ L.length := by
  unfold rowEnd
  have h1 := (List.takeWhile_prefix (p := fun c => decide (c ∈ Z)) (l := L.drop i)).length_le
  rw [List.length_drop] at h1
  omega
theorem rowEnd_gt {L Z : List Nat} {i : Nat} (h : i < L.length) (hz : L[i] ∈ Z) : i < rowEnd L Z i := by
  rw [rowEnd_in h hz]
  unfold rowEnd
  omega
section
variable {w : W} {t : Str} {acc : List D} {i j : Nat} {x : Option Int}
theorem tk_B4 (hl : t.cps.size ≤ 16777216) (hacc : acc.length < 16777216) (h1 : i ≤ t.cps.size) (h2 : j ≤ t.cps.size) : dSeq tkB4 (dSet 2 (dVar 3)) (tkS w t acc i (some (j : Int))) = some (.nx (tkS w t (acc ++ [tok (sub t.cps.toList i j) i]) j (some (j : Int)))) := by
  have hl' : t.length ≤ 16777216 := hl
  have e := cut_nat t i j h1 h2
  have e1 : tkB4 (tkS w t acc i (some (j : Int))) = some (.nx (tkS w t (acc ++ [tok (sub t.cps.toList i j) i]) i (some (j : Int)))) := by
    simp [tkB4, tkS, Sn, hl', e, tok, hacc]
  rw [dSeq_nx e1]
  simp [tkS, Sn]
end
/-- the scan: its tokens, the first bad place -/
def scan (L : List Nat) : Nat → Nat → List D × Option Nat
  | 0, _ => ([], none)
  | k + 1, i => match L[i]? with
    | none => ([], none)
    | some c => if c ∈ zBlk then scan L k (i + 1)
      else if c ∈ zLet then (tok (sub L i (rowEnd L zLet i)) i :: (scan L k (rowEnd L zLet i)).1, (scan L k (rowEnd L zLet i)).2)
      else if c ∈ zFig then (tok (sub L i (rowEnd L zFig i)) i :: (scan L k (rowEnd L zFig i)).1, (scan L k (rowEnd L zFig i)).2)
      else if c ∈ zSgn then (tok (sub L i (i + 1)) i :: (scan L k (i + 1)).1, (scan L k (i + 1)).2)
      else ([], some i)
noncomputable def cTk : TTf := dTest (dOp gLt (dVar 2) (dCB gLen (dCons (dVar 0) dNil)))
section
variable {w : W} {t : Str}
theorem tk_yes (hl : t.cps.size ≤ 16777216) {acc : List D} {i : Nat} {x : Option Int} (h : i < t.cps.size) : cTk (tkS w t acc i x) = some (.tv true (tkS w t acc i x)) := by
  have hl' : t.length ≤ 16777216 := hl
  have hs : t.length = t.cps.size := rfl
  cases x <;> simp [cTk, tkS, Sn, hl, hs, h]
theorem tk_no (hl : t.cps.size ≤ 16777216) {acc : List D} {i : Nat} {x : Option Int} (h : ¬ i < t.cps.size) : cTk (tkS w t acc i x) = some (.tv false (tkS w t acc i x)) := by
  have hl' : t.length ≤ 16777216 := hl
  have hs : t.length = t.cps.size := rfl
  cases x <;> simp [cTk, tkS, Sn, hl, hs, h]
theorem tk_calm {acc : List D} {i : Int} {x : Option Int} : (⟨(tkS w t acc i x).w, calmE (tkS w t acc i x).e⟩ : S) = tkS w t acc i x := by
  cases x <;> simp [tkS, Sn]
def tkEnd (w : W) (t : Str) (acc : List D) (r : List D × Option Nat) (o : Option Fl) : Prop := match r.2 with
  | none => ∃ (i : Nat) (x : Option Int), o = some (.nx (tkS w t (acc ++ r.1) i x))
  | some b => ∃ s', o = some (.rt (.sh (.lst (acc ++ r.1 ++ [tok "?" b]))) s') ∧ s'.w = w
theorem tkEnd_cons {acc : List D} {y : D} {r : List D × Option Nat} {o : Option Fl} (h : tkEnd w t (acc ++ [y]) r o) : tkEnd w t acc (y :: r.1, r.2) o := by
  unfold tkEnd at h ⊢
  simp only [List.append_assoc, List.cons_append, List.nil_append] at h ⊢
  exact h
theorem tk_step (hl : t.cps.size ≤ 16777216) {acc : List D} {i j : Nat} {x : Option Int} {c : Nat} (ha : atI t.cps.toList (i : Int) = some c) (hb : c ∉ zBlk) (hacc : acc.length < 16777216) (h1 : i ≤ t.cps.size) (h2 : j ≤ t.cps.size)
    (h3 : tkB3 (tkS w t acc i (some ((i : Int) + 1))) = some (.nx (tkS w t acc i (some (j : Int))))) : tkBody (tkS w t acc i x) = some (.nx (tkS w t (acc ++ [tok (sub t.cps.toList i j) i]) j (some (j : Int)))) := by
  unfold tkBody
  rw [dSeq_nx (tk_B1 hl ha hb), dSeq_nx tk_B2, dSeq_nx h3]
  exact tk_B4 hl hacc h1 h2
theorem tk_loop (hl : t.cps.size ≤ 16777216) : ∀ (k i : Nat) (acc : List D) (x : Option Int), t.cps.size - i < k → i ≤ t.cps.size → acc.length + (t.cps.size - i) < 16777216 →
    tkEnd w t acc (scan t.cps.toList k i) (whileS cTk tkBody (tkS w t acc i x)) := by
  intro k
  induction k with
  | zero => intro i acc x h; omega
  | succ k ih =>
    intro i acc x h1 h2 h3
    by_cases hi : i < t.cps.size
    · have hi' : i < t.cps.toList.length := by simpa using hi
      obtain ⟨c, hc⟩ : ∃ c, c = t.cps.toList[i] := ⟨_, rfl⟩
      have hg : t.cps.toList[i]? = some c := by rw [hc]; exact List.getElem?_eq_getElem hi'
      have ha : atI t.cps.toList (i : Int) = some c := atI_nat hg
      unfold scan
      rw [hg]
      simp only
      have go : ∀ (j : Nat), i < j → j ≤ t.cps.size → c ∉ zBlk → tkB3 (tkS w t acc i (some ((i : Int) + 1))) = some (.nx (tkS w t acc i (some (j : Int)))) →
          tkEnd w t acc (tok (sub t.cps.toList i j) i :: (scan t.cps.toList k j).1, (scan t.cps.toList k j).2) (whileS cTk tkBody (tkS w t acc i x)) := fun j g1 g2 hb g3 => by
        rw [while_yes (tk_yes hl hi) (by rw [tk_calm]; exact tk_step hl ha hb (by omega) h2 g2 g3)]
        exact tkEnd_cons (ih j _ _ (by omega) g2 (by rw [List.length_append, List.length_singleton]; omega))
      by_cases hb : c ∈ zBlk
      · rw [if_pos hb, while_ct (tk_yes hl hi) (by rw [tk_calm]; exact tk_blank hl ha hb)]
        exact ih (i + 1) acc x (by omega) (by omega) (by omega)
      · rw [if_neg hb]
        by_cases h4 : c ∈ zLet
        · rw [if_pos h4]
          refine go _ (rowEnd_gt hi' (by rw [← hc]; exact h4)) ?_ hb (tk_let hl h2 ha h4)
          have := rowEnd_le (L := t.cps.toList) (Z := zLet) (i := i) (by simpa using h2)
          simpa using this
        · rw [if_neg h4]
          by_cases h5 : c ∈ zFig
          · rw [if_pos h5]
            refine go _ (rowEnd_gt hi' (by rw [← hc]; exact h5)) ?_ hb (tk_fig hl h2 ha h4 h5)
            have := rowEnd_le (L := t.cps.toList) (Z := zFig) (i := i) (by simpa using h2)
            simpa using this
          · rw [if_neg h5]
            by_cases h6 : c ∈ zSgn
            · rw [if_pos h6]
              exact go (i + 1) (by omega) (by omega) hb (tk_sgn hl ha h4 h5 h6)
            · rw [if_neg h6]
              obtain ⟨s', e, hw⟩ := tk_bad (w := w) (x := some ((i : Int) + 1)) hl (by omega : acc.length < 16777216) ha h4 h5 h6
              refine ⟨s', ?_, hw⟩
              rw [List.append_nil]
              refine while_rt (tk_yes hl hi) ?_
              rw [tk_calm]
              unfold tkBody
              rw [dSeq_nx (tk_B1 hl ha hb), dSeq_nx tk_B2]
              exact dSeq_rt e
    · have hg : t.cps.toList[i]? = none := List.getElem?_eq_none (by simpa using hi)
      unfold scan
      rw [hg]
      refine ⟨i, x, ?_⟩
      rw [while_no (tk_no hl hi), tk_calm, List.append_nil]
end
end Gk11

end

section -- K11m5
set_option Elab.async false
set_option linter.all false
set_option maxRecDepth 100000
set_option maxHeartbeats 4000000
namespace Gk11
open PySem PySem.Spec L2 DL
def badTok : Option Nat → List D
  | none => []
  | some b => [tok "?" b]
section
variable {w : W} {t : Str}
theorem tokens_told_eq (hl : t.cps.size < 16777216) : ∃ s', fn_tokens_told w [.sh (.str t)] = some (.rt (.sh (.lst ((scan t.cps.toList (t.cps.size + 1) 0).1 ++ badTok (scan t.cps.toList (t.cps.size + 1) 0).2))) s') ∧ s'.w = w := by
  have h0 : (dPar 1 2 (dLst dNil) (dC (.int 0))) ⟨w, [.sh (.str t), .no, .no, .no]⟩ = some (.nx (tkS w t [] ((0 : Nat) : Int) none)) := by
    simp [tkS, Sn]
  have h1 := tk_loop (w := w) (t := t) (by omega) (t.cps.size + 1) 0 [] none (by omega) (by omega) (by simp; omega)
  generalize scan t.cps.toList (t.cps.size + 1) 0 = r at h1 ⊢
  obtain ⟨r1, r2⟩ := r
  cases r2 with
  | none =>
    obtain ⟨i, x, e⟩ := h1
    rw [List.nil_append] at e
    refine ⟨⟨w, [.sh (.str t), .lck (.lst r1), .sh (.int i), Sn x]⟩, ?_, rfl⟩
    unfold fn_tokens_told
    refine runF_rt ?_
    unfold t_tokens_told
    show dSeq _ _ ⟨w, [.sh (.str t), .no, .no, .no]⟩ = _
    rw [dSeq_nx h0]
    refine Eq.trans (dSeq_nx e) ?_
    cases x <;> simp [tkS, Sn, badTok]
  | some b =>
    obtain ⟨s', e, hw⟩ := h1
    rw [List.nil_append] at e
    refine ⟨s', ?_, hw⟩
    unfold fn_tokens_told
    refine runF_rt ?_
    unfold t_tokens_told
    show dSeq _ _ ⟨w, [.sh (.str t), .no, .no, .no]⟩ = _
    rw [dSeq_nx h0]
    exact dSeq_rt e
end
end Gk11

end

section -- K11m6
set_option Elab.async false
set_option linter.all false
set_option maxRecDepth 100000
set_option maxHeartbeats 4000000
namespace Gk11
open PySem PySem.Spec L2 DL
section
variable {K : PySem.W.Frag} {w : W} {t : Str}
theorem need_few_yes (n m : Int) (h : n ≤ m) : ∃ e, fn_need_few K w [.sh (.int n), .sh (.int m)] = some (.rt (.sh .non) ⟨w, e⟩) := by
  simp [fn_need_few, t_need_few, Int.not_lt.mpr h]
theorem need_few_no (n m : Int) (h : m < n) : fn_need_few K w [.sh (.int n), .sh (.int m)] = some (.exc ⟨He.ga K "TooMany", some ("most", .int m)⟩ w) := by
  simp [fn_need_few, t_need_few, h]
theorem ty_str : dTy (D.str t) = some "str" := rfl
theorem kit_str : kitB "str" "str" = some true := by first | rfl | decide | decide +kernel
theorem need_text_ok (hl : t.cps.size ≤ 100000) : ∃ s', fn_need_text K w [.sh (.str t)] = some (.rt (.sh .non) s') ∧ s'.w = w := by
  have hs : t.length = t.cps.size := rfl
  obtain ⟨e, h⟩ := need_few_yes (K := K) (w := w) (t.cps.size : Int) 100000 (by omega)
  have h16 : t.cps.size ≤ 16777216 := by omega
  simp [fn_need_text, t_need_text, hs, h16, h, ty_str, kit_str]
theorem need_text_many (h1 : 100000 < t.cps.size) (h2 : t.cps.size ≤ 16777216) : fn_need_text K w [.sh (.str t)] = some (.exc ⟨He.ga K "TooMany", some ("most", .int 100000)⟩ w) := by
  have hs : t.length = t.cps.size := rfl
  have h := need_few_no (K := K) (w := w) (t.cps.size : Int) 100000 (by omega)
  simp [fn_need_text, t_need_text, hs, h2, h, ty_str, kit_str]
theorem need_text_bad {d : D} {ty : String} (hd : dTy d = some ty) (hk : kitB ty "str" = some false) : fn_need_text K w [.sh d] = some (.exc ⟨He.ga K "BadText", some ("at", .int 0)⟩ w) := by
  simp [fn_need_text, t_need_text, hd, hk]
end
end Gk11

end

section -- K11m7
set_option Elab.async false
set_option linter.all false
set_option maxRecDepth 100000
set_option maxHeartbeats 4000000
namespace Gk11
open PySem PySem.Spec L2 DL
/-- a list of told tokens -/
def toks (ps : List (Str × Nat)) : List D := ps.map fun q => tok q.1 q.2
def pyTok (q : Str × Nat) : PyData := .tuple [.str q.1, .int q.2]
theorem toPyAll_toks : ∀ ps : List (Str × Nat), toPyAll (toks ps) = some (ps.map pyTok)
  | [] => by simp [toks, toPyAll]
  | q :: ps => by
    have ih := toPyAll_toks ps
    unfold toks at ih ⊢
    rw [List.map_cons, toPyAll, ih]
    simp [tok, toPy, toPyAll, pyTok]
theorem toPy_toks (ps : List (Str × Nat)) : toPy (.lst (toks ps)) = some (.list (ps.map pyTok)) := by
  rw [toPy, toPyAll_toks]
  rfl
theorem toPy_toksT (ps : List (Str × Nat)) : toPy (.tup (toks ps)) = some (.tuple (ps.map pyTok)) := by
  rw [toPy, toPyAll_toks]
  rfl
theorem canLay_toks : ∀ ps : List (Str × Nat), (∀ q ∈ ps, PyData.strOk q.1 = true) → PyData.canLayAll0 (ps.map pyTok) = true
  | [], _ => rfl
  | q :: ps, h => by
    have ih := canLay_toks ps fun x hx => h x (List.mem_cons_of_mem _ hx)
    have h0 := h q List.mem_cons_self
    rw [List.map_cons, PyData.canLayAll0, ih, Bool.and_true]
    simp [pyTok, PyData.canLay0, PyData.canLayAll0, h0]
theorem depth_toks : ∀ ps : List (Str × Nat), PyData.depthAll (ps.map pyTok) ≤ 1
  | [] => by simp [PyData.depthAll]
  | q :: ps => by
    have ih := depth_toks ps
    rw [List.map_cons, PyData.depthAll]
    have : PyData.depth (pyTok q) = 1 := by simp [pyTok, PyData.depth, PyData.depthAll]
    omega
theorem shaped_toks (ps : List (Str × Nat)) (h : ∀ q ∈ ps, PyData.strOk q.1 = true) : SeqAt.shaped (.list (ps.map pyTok)) = true := by
  unfold SeqAt.shaped
  have h1 := depth_toks ps
  have h2 : PyData.depth (.list (ps.map pyTok)) ≤ 64 := by rw [PyData.depth]; omega
  have h3 : PyData.canLay0 (.list (ps.map pyTok)) = true := by rw [PyData.canLay0]; exact canLay_toks ps h
  rw [h3, Bool.true_and]
  exact decide_eq_true h2
theorem eqD_toks_nil (ps : List (Str × Nat)) (h : ∀ q ∈ ps, PyData.strOk q.1 = true) : eqD (.lst (toks ps)) (.lst []) = some ps.isEmpty := by
  have e1 := toPy_toks ps
  have e2 : toPy (.lst []) = some (.list []) := toPy_toks []
  have s1 := shaped_toks ps h
  have s2 : SeqAt.shaped (.list []) = true := shaped_toks [] (by simp)
  unfold eqD
  rw [e1, e2]
  cases ps with
  | nil => simp [dV, s2, PyData.eqv, PyData.eqvAll]
  | cons q ps => simp [dV, PyData.eqv, PyData.eqvAll, s2]; simpa using s1
/-- the scan as pairs -/
def scanP (L : List Nat) : Nat → Nat → List (Str × Nat) × Option Nat
  | 0, _ => ([], none)
  | k + 1, i => match L[i]? with
    | none => ([], none)
    | some c => if c ∈ zBlk then scanP L k (i + 1)
      else if c ∈ zLet then ((sub L i (rowEnd L zLet i), i) :: (scanP L k (rowEnd L zLet i)).1, (scanP L k (rowEnd L zLet i)).2)
      else if c ∈ zFig then ((sub L i (rowEnd L zFig i), i) :: (scanP L k (rowEnd L zFig i)).1, (scanP L k (rowEnd L zFig i)).2)
      else if c ∈ zSgn then ((sub L i (i + 1), i) :: (scanP L k (i + 1)).1, (scanP L k (i + 1)).2)
      else ([], some i)
theorem scan_eq (L : List Nat) : ∀ (k i : Nat), scan L k i = (toks (scanP L k i).1, (scanP L k i).2)
  | 0, i => rfl
  | k + 1, i => by
    unfold scan scanP
    cases h : L[i]? with
    | none => rfl
    | some c =>
      simp only [scan_eq L k]
      by_cases h1 : c ∈ zBlk
      · simp [h1]
      · by_cases h2 : c ∈ zLet
        · simp [h1, h2, toks]
        · by_cases h3 : c ∈ zFig
          · simp [h1, h2, h3, toks]
          · by_cases h4 : c ∈ zSgn
            · simp [h1, h2, h3, h4, toks]
            · simp [h1, h2, h3, h4, toks]
end Gk11

end

section -- K11m8
set_option Elab.async false
set_option linter.all false
set_option maxRecDepth 100000
set_option maxHeartbeats 4000000
namespace Gk11
open PySem PySem.Spec L2 DL
theorem sub_head {L : List Nat} {i j c : Nat} (h : L[i]? = some c) (hj : i < j) : (sub L i j).cps.toList.head? = some c := by
  unfold sub
  obtain ⟨hi, e⟩ := List.getElem?_eq_some_iff.mp h
  show ((L.drop i).take (j - i)).head? = some c
  rw [List.drop_eq_getElem_cons hi, e]
  obtain ⟨n, hn⟩ : ∃ n, j - i = n + 1 := ⟨j - i - 1, by omega⟩
  rw [hn, List.take_succ_cons]
  rfl
theorem sub_ne {L : List Nat} {i j c : Nat} (h : L[i]? = some c) (hj : i < j) (hc : c ≠ 63) : sub L i j ≠ "?" := fun z => by
  have h1 := sub_head h hj
  rw [z] at h1
  have h2 : ("?" : Str).cps.toList.head? = some 63 := by decide
  rw [h2] at h1
  exact hc (Option.some.inj h1).symm
theorem ne63 {c : Nat} (h : c ∈ zLet ∨ c ∈ zFig ∨ c ∈ zSgn) : c ≠ 63 := fun z => by
  subst z
  revert h
  decide
theorem rowEnd_gt' {L Z : List Nat} {i c : Nat} (h : L[i]? = some c) (hz : c ∈ Z) : i < rowEnd L Z i := by
  obtain ⟨hi, e⟩ := List.getElem?_eq_some_iff.mp h
  exact rowEnd_gt hi (by rw [e]; exact hz)
theorem scanP_ne (L : List Nat) : ∀ (k i : Nat), ∀ q ∈ (scanP L k i).1, q.1 ≠ "?"
  | 0, i, q, h => by simp [scanP] at h
  | k + 1, i, q, h => by
    unfold scanP at h
    cases hg : L[i]? with
    | none => rw [hg] at h; simp at h
    | some c =>
      rw [hg] at h
      simp only at h
      by_cases h1 : c ∈ zBlk
      · rw [if_pos h1] at h
        exact scanP_ne L k _ q h
      · rw [if_neg h1] at h
        by_cases h2 : c ∈ zLet
        · rw [if_pos h2] at h
          rcases List.mem_cons.mp h with e | h
          · rw [e]; exact sub_ne hg (rowEnd_gt' hg h2) (ne63 (.inl h2))
          · exact scanP_ne L k _ q h
        · rw [if_neg h2] at h
          by_cases h3 : c ∈ zFig
          · rw [if_pos h3] at h
            rcases List.mem_cons.mp h with e | h
            · rw [e]; exact sub_ne hg (rowEnd_gt' hg h3) (ne63 (.inr (.inl h3)))
            · exact scanP_ne L k _ q h
          · rw [if_neg h3] at h
            by_cases h4 : c ∈ zSgn
            · rw [if_pos h4] at h
              rcases List.mem_cons.mp h with e | h
              · rw [e]; exact sub_ne hg (by omega) (ne63 (.inr (.inr h4)))
              · exact scanP_ne L k _ q h
            · rw [if_neg h4] at h
              simp at h
end Gk11

end

section -- K11m9
set_option Elab.async false
set_option linter.all false
set_option maxRecDepth 100000
set_option maxHeartbeats 4000000
namespace Gk11
open PySem PySem.Spec L2 DL
section
variable {K : PySem.W.Frag} {w : W} {t : Str}
theorem ix_last (ps : List (Str × Nat)) (q : Str × Nat) : atI (toks (ps ++ [q])) (-1) = some (tok q.1 q.2) := by
  unfold toks
  rw [List.map_append]
  exact atI_last _ _
theorem tok_0 (x : Str) (i : Nat) : atI ([.str x, .int i] : List D) 0 = some (.str x) := atI_nat (j := 0) rfl
theorem tok_1 (x : Str) (i : Nat) : atI ([.str x, .int i] : List D) 1 = some (.int i) := atI_nat (j := 1) rfl
theorem tokens_of_ok (hl : t.cps.size ≤ 100000) {ps : List (Str × Nat)} (h : scanP t.cps.toList (t.cps.size + 1) 0 = (ps, none)) (hs : ∀ q ∈ ps, PyData.strOk q.1 = true) : ∃ s', fn_tokens_of K w [.sh (.str t)] = some (.rt (.sh (.tup (toks ps))) s') ∧ s'.w = w := by
  obtain ⟨s1, e1, w1⟩ := need_text_ok (K := K) (w := w) hl
  obtain ⟨s2, e2, w2⟩ := tokens_told_eq (w := w) (t := t) (by omega)
  rw [scan_eq, h] at e2
  simp only [badTok, List.append_nil] at e2
  have e3 := eqD_toks_nil ps hs
  rcases List.eq_nil_or_concat ps with rfl | ⟨r, q, rfl⟩
  · have e2' : fn_tokens_told w [.sh (.str t)] = some (.rt (.sh (.lst [])) s2) := e2
    have e3' : eqD (.lst []) (.lst []) = some true := e3
    simp [fn_tokens_of, t_tokens_of, e1, e2', e3', w1, w2, toks]
  · rw [List.concat_eq_append] at *
    have ne : ¬ q.1 = "?" := scanP_ne t.cps.toList (t.cps.size + 1) 0 q (by rw [h]; simp)
    have e4 := ix_last r q
    have e3' : eqD (.lst (toks (r ++ [q]))) (.lst []) = some false := by rw [e3]; simp
    simp only [tok] at e4
    have e5 := tok_0 q.1 q.2
    simp [fn_tokens_of, t_tokens_of, e1, e2, e3', w1, w2, e4, e5, ne]
theorem tokens_of_bad (hl : t.cps.size ≤ 100000) {ps : List (Str × Nat)} {b : Nat} (h : scanP t.cps.toList (t.cps.size + 1) 0 = (ps, some b)) (hs : ∀ q ∈ ps, PyData.strOk q.1 = true) : fn_tokens_of K w [.sh (.str t)] = some (.exc ⟨He.ga K "BadText", some ("at", .int b)⟩ w) := by
  obtain ⟨s1, e1, w1⟩ := need_text_ok (K := K) (w := w) hl
  obtain ⟨s2, e2, w2⟩ := tokens_told_eq (w := w) (t := t) (by omega)
  rw [scan_eq, h] at e2
  have et : toks ps ++ badTok (some b) = toks (ps ++ [(("?" : Str), b)]) := by simp [toks, badTok]
  simp only at e2
  rw [et] at e2
  have hs2 : ∀ q ∈ ps ++ [(("?" : Str), b)], PyData.strOk q.1 = true := fun q hq => by
    rcases List.mem_append.mp hq with z | z
    · exact hs q z
    · rw [List.mem_singleton.mp z]; exact (show PyData.strOk ("?" : Str) = true by decide +kernel)
  have e3' : eqD (.lst (toks (ps ++ [(("?" : Str), b)]))) (.lst []) = some false := by rw [eqD_toks_nil _ hs2]; simp
  have e4 := ix_last ps (("?" : Str), b)
  have e5 := tok_0 ("?" : Str) b
  have e6 := tok_1 ("?" : Str) b
  simp only [tok] at e4
  simp [fn_tokens_of, t_tokens_of, e1, e2, e3', w1, w2, e4, e5, e6]
theorem tokens_of_many (h1 : 100000 < t.cps.size) (h2 : t.cps.size ≤ 16777216) : fn_tokens_of K w [.sh (.str t)] = some (.exc ⟨He.ga K "TooMany", some ("most", .int 100000)⟩ w) := by
  have e1 := need_text_many (K := K) (w := w) h1 h2
  simp [fn_tokens_of, t_tokens_of, e1]
theorem tokens_of_type {d : D} {ty : String} (hd : dTy d = some ty) (hk : kitB ty "str" = some false) : fn_tokens_of K w [.sh d] = some (.exc ⟨He.ga K "BadText", some ("at", .int 0)⟩ w) := by
  have e1 := need_text_bad (K := K) (w := w) hd hk
  simp [fn_tokens_of, t_tokens_of, e1]
end
end Gk11

end

section -- K11m10
set_option Elab.async false
set_option linter.all false
set_option maxRecDepth 100000
set_option maxHeartbeats 4000000
namespace Gk11
open PySem PySem.Spec L2 DL
theorem same_eq {w : W} {d : D} {x : Str} (h : reprD d = some x) : ∃ s', fn__law_same w [.sh d, .sh d] = some (.rt (.sh (.bl true)) s') ∧ s'.w = w := by
  have e : gRepr [d] = some (.sh (.str x)) := by simp [gRepr, h]
  simp [fn__law_same, t__law_same, e]
theorem same_int {w : W} (i : Int) {x : Str} (h : reprD (.int i) = some x) : ∃ s', fn__law_same w [.sh (.int i), .sh (.int i)] = some (.rt (.sh (.bl true)) s') ∧ s'.w = w := same_eq h
end Gk11
namespace Gk11
open PySem PySem.Spec L2 DL
section
variable {K : PySem.W.Frag} {w : W}
/-- the thunk's end as is_bad_at wants it -/
theorem is_bad_at_yes (k : KF K) {F : W → Option Fl} {a : Int} {x : Str} (hF : F w = some (.exc ⟨He.ga K "BadText", some ("at", .int a)⟩ w)) (hr : reprD (.int a) = some x) : ∃ s', FT__law_is_bad_at K F w [.sh (.int a)] = some (.rt (.sh (.bl true)) s') ∧ s'.w = w := by
  obtain ⟨s1, e1, w1⟩ := same_eq (w := w) hr
  have hx := k.m_BadText_LookError
  have hc : FT__law_caught K F w [] = some (.rt (.sh (.exn1 (He.ga K "BadText") "at" (.int a))) ⟨w, []⟩) := by
    simp [FT__law_caught, hF, hx, exnD]
  have hg : gIsX K [.exn1 (He.ga K "BadText") "at" (.int a), .raw (.ref (He.ga K "BadText"))] = some (.sh (.bl true)) := by
    simp [gIsX, k.e_BadText, k.k_BadText_BadText]
  simp [FT__law_is_bad_at, hc, hg, k.x_BadText, k.n_BadText, e1, w1]
theorem is_too_many_yes (k : KF K) {F : W → Option Fl} {a : Int} {x : Str} (hF : F w = some (.exc ⟨He.ga K "TooMany", some ("most", .int a)⟩ w)) (hr : reprD (.int a) = some x) : ∃ s', FT__law_is_too_many K F w [.sh (.int a)] = some (.rt (.sh (.bl true)) s') ∧ s'.w = w := by
  obtain ⟨s1, e1, w1⟩ := same_eq (w := w) hr
  have hx := k.m_TooMany_LookError
  have hc : FT__law_caught K F w [] = some (.rt (.sh (.exn1 (He.ga K "TooMany") "most" (.int a))) ⟨w, []⟩) := by
    simp [FT__law_caught, hF, hx, exnD]
  have hg : gIsX K [.exn1 (He.ga K "TooMany") "most" (.int a), .raw (.ref (He.ga K "TooMany"))] = some (.sh (.bl true)) := by
    simp [gIsX, k.e_TooMany, k.k_TooMany_TooMany]
  simp [FT__law_is_too_many, hc, hg, k.x_TooMany, k.n_TooMany, e1, w1]
end
end Gk11
namespace Gk11
open PySem PySem.Spec L2 DL
section
variable {K : PySem.W.Frag} {w : W}
theorem capE_one {n i : Nat} {e : List Sl} {d : D} (hi : i < n) (he : e[i]? = some (.sh d)) : (capE n [i] e)[i]? = some (.sh d) := by
  unfold capE
  rw [List.getElem?_map, List.getElem?_range hi]
  simp [he]
theorem lam_exc {n i : Nat} {e : List Sl} {d : D} {x : Ex} (hi : i < n) (he : e[i]? = some (.sh d)) (h : fn_tokens_of K w [.sh d] = some (.exc x w)) : lamF n [i] (dCall (fn_tokens_of K) (dCons (dVar i) dNil)) e w = some (.exc x w) := by
  have h1 := capE_one hi he
  simp [lamF, h1, h, lamEnd]
theorem capD_one {i : Nat} {e : List Sl} {d : D} (he : e[i]? = some (.sh d)) : (capD [i] e).isSome = true := by
  simp [capD, he]
end
end Gk11

end

section -- K11m11
set_option Elab.async false
set_option linter.all false
set_option maxRecDepth 100000
set_option maxHeartbeats 4000000
namespace Gk11
open PySem PySem.Spec L2 DL
/-- the state inside a turn of _law_scanned -/
def scS (w : W) (t : Str) (acc : List D) (i lap : Int) (g : Str) (j : Int) (lot : Str) : S := ⟨w, [.sh (.str t), .own (.lst acc), .sh (.int i), .sh (.int lap), .sh (.str g), .sh (.int j), .sh (.str lot)]⟩
noncomputable def cSc : TTf := dAnd (dTest (dOp gLt (dVar 5) (dCB gLen (dCons (dVar 0) dNil)))) (dTest (dOp gIn (dOp gIx (dVar 0) (dVar 5)) (dVar 6)))
theorem sc_loop (w : W) (t lot g : Str) (acc : List D) (i lap : Int) (hl : t.cps.size ≤ 16777216) : ∀ (k j : Nat), t.cps.size - j = k → j ≤ t.cps.size →
    whileS cSc (dSet 5 (dOp gAdd (dVar 5) (dC (.int 1)))) (scS w t acc i lap g j lot) = some (.nx (scS w t acc i lap g (rowEnd t.cps.toList lot.cps.toList j) lot)) := by
  have hl' : t.length ≤ 16777216 := hl
  have hs : t.length = t.cps.size := rfl
  intro k
  induction k with
  | zero =>
    intro j h1 h2
    rw [rowEnd_end (by simp; omega)]
    rw [while_no (s1 := scS w t acc i lap g j lot) (by
      have hn : ¬ j < t.cps.size := by omega
      simp [cSc, scS, hl', hs, hl, hn])]
    simp [scS]
  | succ k ih =>
    intro j h1 h2
    have hi : j < t.cps.toList.length := by simp; omega
    have hi2 : j < t.cps.size := by omega
    have hg : t.cps.toList[j]? = some t.cps.toList[j] := List.getElem?_eq_getElem hi
    obtain ⟨c, hc⟩ : ∃ c, c = t.cps.toList[j] := ⟨_, rfl⟩
    rw [← hc] at hg
    have ha : atI t.cps.toList (j : Int) = some c := atI_nat hg
    by_cases hz : c ∈ lot.cps.toList
    · rw [rowEnd_in hi (by rw [← hc]; exact hz)]
      have e2 : inS ⟨#[c]⟩ lot = some true := by rw [inS_one]; exact congrArg some (decide_eq_true hz)
      rw [while_yes (s1 := scS w t acc i lap g j lot) (s2 := scS w t acc i lap g (j + 1 : Nat) lot) (by
        simp [cSc, scS, hl', hs, hl, hi2, ha, e2]) (by simp [scS])]
      exact ih (j + 1) (by omega) (by omega)
    · rw [rowEnd_out hi (by rw [← hc]; exact hz)]
      have e2 : inS ⟨#[c]⟩ lot = some false := by rw [inS_one]; exact congrArg some (decide_eq_false hz)
      rw [while_no (s1 := scS w t acc i lap g j lot) (by
        simp [cSc, scS, hl', hs, hl, hi2, ha, e2])]
      simp [scS]
end Gk11

end

section -- K11m12
set_option Elab.async false
set_option linter.all false
set_option maxRecDepth 100000
set_option maxHeartbeats 4000000
namespace Gk11
open PySem PySem.Spec L2 DL
/-- the state at the head of a turn: what a turn before left -/
def sc0 (w : W) (t : Str) (acc : List D) (i : Int) (lap : Sl) (o : Option (Str × Int × Str)) : S := match o with
  | none => ⟨w, [.sh (.str t), .own (.lst acc), .sh (.int i), lap, .no, .no, .no]⟩
  | some (g, j, lot) => ⟨w, [.sh (.str t), .own (.lst acc), .sh (.int i), lap, .sh (.str g), .sh (.int j), .sh (.str lot)]⟩
noncomputable def scB1 : TSf := dIfS (dTest (dOp gEq (dVar 2) (dCB gLen (dCons (dVar 0) dNil)))) dBreak dNext
noncomputable def scB2 : TSf := dPar 4 5 (dOp gIx (dVar 0) (dVar 2)) (dOp gAdd (dVar 2) (dC (.int 1)))
noncomputable def scB3 : TSf := dSet 6 (dIf (dTest (dOp gIn (dVar 4) (dC (.str "abcdefghijklmnopqrstuvwxyz")))) (dC (.str "abcdefghijklmnopqrstuvwxyz")) (dIf (dTest (dOp gIn (dVar 4) (dC (.str "0123456789")))) (dC (.str "0123456789")) (dC (.str ""))))
section
variable {w : W} {t : Str} {acc : List D} {i : Nat} {lap : Int} {o : Option (Str × Int × Str)} {c : Nat}
theorem scB1_go (hl : t.cps.size ≤ 16777216) (h : i < t.cps.size) : scB1 (sc0 w t acc i (.sh (.int lap)) o) = some (.nx (sc0 w t acc i (.sh (.int lap)) o)) := by
  have hs : t.length = t.cps.size := rfl
  have hn : ¬ (i : Int) = (t.cps.size : Int) := by omega
  have hn2 : ¬ i = t.cps.size := by omega
  match o with
  | none => simp [scB1, sc0, hs, hl, hn, hn2]
  | some (g, j, lot) => simp [scB1, sc0, hs, hl, hn, hn2]
theorem scB1_end (hl : t.cps.size ≤ 16777216) : scB1 (sc0 w t acc (t.cps.size : Nat) (.sh (.int lap)) o) = some (.bk (sc0 w t acc (t.cps.size : Nat) (.sh (.int lap)) o)) := by
  have hs : t.length = t.cps.size := rfl
  match o with
  | none => simp [scB1, sc0, hs, hl]
  | some (g, j, lot) => simp [scB1, sc0, hs, hl]
/-- the lot of a sign -/
def lotOf (c : Nat) : Str := if c ∈ zLet then sLet else if c ∈ zFig then sFig else ""
theorem scB2_eq (hl : t.cps.size ≤ 16777216) (ha : atI t.cps.toList (i : Int) = some c) : scB2 (sc0 w t acc i (.sh (.int lap)) o) = some (.nx ⟨w, [.sh (.str t), .own (.lst acc), .sh (.int i), .sh (.int lap), .sh (.str ⟨#[c]⟩), .sh (.int ((i : Int) + 1)), (match o with | none => .no | some (_, _, lot) => .sh (.str lot))]⟩) := by
  have hl' : t.length ≤ 16777216 := hl
  match o with
  | none => simp [scB2, sc0, hl', ha]
  | some (g, j, lot) => simp [scB2, sc0, hl', ha]
theorem scB3_eq {x : Sl} (hx : x = .no ∨ ∃ lot, x = .sh (.str lot)) : scB3 ⟨w, [.sh (.str t), .own (.lst acc), .sh (.int i), .sh (.int lap), .sh (.str ⟨#[c]⟩), .sh (.int ((i : Int) + 1)), x]⟩ = some (.nx (scS w t acc i lap ⟨#[c]⟩ ((i + 1 : Nat) : Int) (lotOf c))) := by
  have e1 : inS ⟨#[c]⟩ sLet = some (decide (c ∈ zLet)) := inS_one _ _
  have e2 : inS ⟨#[c]⟩ sFig = some (decide (c ∈ zFig)) := inS_one _ _
  by_cases h1 : c ∈ zLet
  · rcases hx with rfl | ⟨lot, rfl⟩ <;> simp [scB3, scS, e1, h1, lotOf]
  · by_cases h2 : c ∈ zFig
    · rcases hx with rfl | ⟨lot, rfl⟩ <;> simp [scB3, scS, e1, e2, h1, h2, lotOf]
    · rcases hx with rfl | ⟨lot, rfl⟩ <;> simp [scB3, scS, e1, e2, h1, h2, lotOf]
noncomputable def scB4 : TSf := dIfS (dTest (dOp gNe (dVar 6) (dC (.str "")))) (whileS cSc (dSet 5 (dOp gAdd (dVar 5) (dC (.int 1))))) (dIfS (dTest (dOp gNotIn (dVar 4) (dC (.str ",;:/- \n")))) (dRet (dOp gAdd (dVar 1) (dLst (dCons (dTup (dCons (dC (.str "?")) (dCons (dVar 2) dNil))) dNil)))) dNext)
noncomputable def scB5 : TSf := dIfS (dTest (dOp gNotIn (dVar 4) (dC (.str " \n")))) (dApp 1 (dTup (dCons (dCutLH (dVar 0) (dVar 2) (dVar 5)) (dCons (dVar 2) dNil)))) dNext
theorem scB4_lot (hl : t.cps.size ≤ 16777216) {j : Nat} {lot : Str} (hj : j ≤ t.cps.size) (hn : ¬ lot = "") : scB4 (scS w t acc i lap ⟨#[c]⟩ j lot) = some (.nx (scS w t acc i lap ⟨#[c]⟩ (rowEnd t.cps.toList lot.cps.toList j) lot)) := by
  have e := sc_loop w t lot ⟨#[c]⟩ acc i lap hl _ j rfl hj
  have e1 : (dTest (dOp gNe (dVar 6) (dC (.str "")))) (scS w t acc i lap ⟨#[c]⟩ j lot) = some (.tv true (scS w t acc i lap ⟨#[c]⟩ j lot)) := by
    simp [scS, hn]
  unfold scB4 dIfS
  rw [e1]
  simpa [scS] using e
abbrev sAll : Str := ",;:/- \n"
theorem scB4_sgn {j : Int} (h : c ∈ sAll.cps.toList) : scB4 (scS w t acc i lap ⟨#[c]⟩ j "") = some (.nx (scS w t acc i lap ⟨#[c]⟩ j "")) := by
  have e1 : inS ⟨#[c]⟩ sAll = some true := by rw [inS_one]; exact congrArg some (decide_eq_true h)
  simp [scB4, scS, e1]
theorem scB4_bad {j : Int} (hacc : acc.length + 1 ≤ 16777216) (h : c ∉ sAll.cps.toList) : ∃ s', scB4 (scS w t acc i lap ⟨#[c]⟩ j "") = some (.rt (.own (.lst (acc ++ [tok "?" i]))) s') ∧ s'.w = w := by
  have e1 : inS ⟨#[c]⟩ sAll = some false := by rw [inS_one]; exact congrArg some (decide_eq_false h)
  simp [scB4, scS, e1, tok, hacc]
theorem scB5_blk {j : Int} {lot : Str} (h : c ∈ zBlk) : scB5 (scS w t acc i lap ⟨#[c]⟩ j lot) = some (.nx (scS w t acc i lap ⟨#[c]⟩ j lot)) := by
  have e1 : inS ⟨#[c]⟩ sBlk = some true := by rw [inS_one]; exact congrArg some (decide_eq_true h)
  simp [scB5, scS, e1]
theorem scB5_tok {j : Nat} {lot : Str} (hl : t.cps.size ≤ 16777216) (hacc : acc.length < 16777216) (h1 : i ≤ t.cps.size) (h2 : j ≤ t.cps.size) (h : c ∉ zBlk) : scB5 (scS w t acc i lap ⟨#[c]⟩ j lot) = some (.nx (scS w t (acc ++ [tok (sub t.cps.toList i j) i]) i lap ⟨#[c]⟩ j lot)) := by
  have hl' : t.length ≤ 16777216 := hl
  have e1 : inS ⟨#[c]⟩ sBlk = some false := by rw [inS_one]; exact congrArg some (decide_eq_false h)
  have e := cut_nat t i j h1 h2
  simp [scB5, scS, e1, hl', e, tok, hacc]
end
end Gk11

end

section -- K11m13
set_option Elab.async false
set_option linter.all false
set_option maxRecDepth 100000
set_option maxHeartbeats 4000000
namespace Gk11
open PySem PySem.Spec L2 DL
noncomputable def scBody : TSf := dSeq scB1 (dSeq scB2 (dSeq scB3 (dSeq scB4 (dSeq scB5 (dSet 2 (dVar 5))))))
section
variable {w : W} {t : Str} {acc : List D} {i : Nat} {lap : Int} {o : Option (Str × Int × Str)} {c : Nat}
theorem sc_set2 {j : Nat} {g lot : Str} {lap : Int} : (dSet 2 (dVar 5)) (scS w t acc i lap g j lot) = some (.nx (sc0 w t acc (j : Int) (.sh (.int lap)) (some (g, (j : Int), lot)))) := by
  simp [scS, sc0]
/-- the rows before the fork -/
theorem sc_pre (hl : t.cps.size ≤ 16777216) (hi : i < t.cps.size) (ha : atI t.cps.toList (i : Int) = some c) : scBody (sc0 w t acc i (.sh (.int lap)) o) = dSeq scB4 (dSeq scB5 (dSet 2 (dVar 5))) (scS w t acc i lap ⟨#[c]⟩ ((i + 1 : Nat) : Int) (lotOf c)) := by
  unfold scBody
  rw [dSeq_nx (scB1_go hl hi), dSeq_nx (scB2_eq hl ha)]
  refine dSeq_nx (scB3_eq ?_)
  match o with
  | none => exact .inl rfl
  | some (g, j, lot) => exact .inr ⟨lot, rfl⟩
theorem lotOf_ne {c : Nat} (h : c ∈ zLet ∨ c ∈ zFig) : ¬ lotOf c = "" := by
  unfold lotOf
  by_cases h1 : c ∈ zLet
  · rw [if_pos h1]; decide
  · rw [if_neg h1, if_pos (h.resolve_left h1)]; decide
theorem sc_lot (hl : t.cps.size ≤ 16777216) (hacc : acc.length < 16777216) (hi : i < t.cps.size) (ha : atI t.cps.toList (i : Int) = some c) (hb : c ∉ zBlk) (h : c ∈ zLet ∨ c ∈ zFig) : 
    scBody (sc0 w t acc i (.sh (.int lap)) o) = some (.nx (sc0 w t (acc ++ [tok (sub t.cps.toList i (rowEnd t.cps.toList (lotOf c).cps.toList (i + 1))) i]) (rowEnd t.cps.toList (lotOf c).cps.toList (i + 1) : Nat) (.sh (.int lap)) (some (⟨#[c]⟩, ((rowEnd t.cps.toList (lotOf c).cps.toList (i + 1) : Nat) : Int), lotOf c)))) := by
  have hle : rowEnd t.cps.toList (lotOf c).cps.toList (i + 1) ≤ t.cps.size := by
    have := rowEnd_le (L := t.cps.toList) (Z := (lotOf c).cps.toList) (i := i + 1) (by simp; omega)
    simpa using this
  rw [sc_pre hl hi ha, dSeq_nx (scB4_lot hl (by omega) (lotOf_ne h)), dSeq_nx (scB5_tok hl hacc (by omega) hle hb)]
  exact sc_set2
theorem lotOf_none {c : Nat} (h1 : c ∉ zLet) (h2 : c ∉ zFig) : lotOf c = "" := by
  unfold lotOf
  rw [if_neg h1, if_neg h2]
theorem sc_sgn (hl : t.cps.size ≤ 16777216) (hacc : acc.length < 16777216) (hi : i < t.cps.size) (ha : atI t.cps.toList (i : Int) = some c) (h1 : c ∉ zLet) (h2 : c ∉ zFig) (hb : c ∉ zBlk) (h : c ∈ sAll.cps.toList) :
    scBody (sc0 w t acc i (.sh (.int lap)) o) = some (.nx (sc0 w t (acc ++ [tok (sub t.cps.toList i (i + 1)) i]) ((i + 1 : Nat) : Int) (.sh (.int lap)) (some (⟨#[c]⟩, ((i + 1 : Nat) : Int), "")))) := by
  rw [sc_pre hl hi ha, lotOf_none h1 h2, dSeq_nx (scB4_sgn h), dSeq_nx (scB5_tok hl hacc (by omega) (by omega) hb)]
  exact sc_set2
theorem sc_blk (hl : t.cps.size ≤ 16777216) (hi : i < t.cps.size) (ha : atI t.cps.toList (i : Int) = some c) (h1 : c ∉ zLet) (h2 : c ∉ zFig) (hb : c ∈ zBlk) (h : c ∈ sAll.cps.toList) :
    scBody (sc0 w t acc i (.sh (.int lap)) o) = some (.nx (sc0 w t acc ((i + 1 : Nat) : Int) (.sh (.int lap)) (some (⟨#[c]⟩, ((i + 1 : Nat) : Int), "")))) := by
  rw [sc_pre hl hi ha, lotOf_none h1 h2, dSeq_nx (scB4_sgn h), dSeq_nx (scB5_blk hb)]
  exact sc_set2
theorem sc_bad (hl : t.cps.size ≤ 16777216) (hacc : acc.length < 16777216) (hi : i < t.cps.size) (ha : atI t.cps.toList (i : Int) = some c) (h1 : c ∉ zLet) (h2 : c ∉ zFig) (h : c ∉ sAll.cps.toList) :
    ∃ s', scBody (sc0 w t acc i (.sh (.int lap)) o) = some (.rt (.own (.lst (acc ++ [tok "?" i]))) s') ∧ s'.w = w := by
  obtain ⟨s', e, hw⟩ := scB4_bad (w := w) (t := t) (acc := acc) (i := i) (lap := lap) (c := c) (j := ((i + 1 : Nat) : Int)) (by omega) h
  exact ⟨s', by rw [sc_pre hl hi ha, lotOf_none h1 h2]; exact dSeq_rt e, hw⟩
end
end Gk11

end

section -- K11m14
set_option Elab.async false
set_option linter.all false
set_option maxRecDepth 100000
set_option maxHeartbeats 4000000
namespace Gk11
open PySem PySem.Spec L2 DL
theorem blk_let {c : Nat} (h : c ∈ zBlk) : c ∉ zLet := by
  have : ∀ c ∈ zBlk, c ∉ zLet := by decide +kernel
  exact this c h
theorem blk_fig {c : Nat} (h : c ∈ zBlk) : c ∉ zFig := by
  have : ∀ c ∈ zBlk, c ∉ zFig := by decide +kernel
  exact this c h
theorem blk_all {c : Nat} (h : c ∈ zBlk) : c ∈ sAll.cps.toList := by
  have : ∀ c ∈ zBlk, c ∈ sAll.cps.toList := by decide +kernel
  exact this c h
theorem sgn_all {c : Nat} (h : c ∈ zSgn) : c ∈ sAll.cps.toList := by
  have : ∀ c ∈ zSgn, c ∈ sAll.cps.toList := by decide +kernel
  exact this c h
theorem all_or {c : Nat} (h : c ∈ sAll.cps.toList) : c ∈ zSgn ∨ c ∈ zBlk := by
  have : ∀ c ∈ sAll.cps.toList, c ∈ zSgn ∨ c ∈ zBlk := by decide +kernel
  exact this c h
theorem lot_let {c : Nat} (h : c ∈ zLet) : (lotOf c).cps.toList = zLet := by unfold lotOf; rw [if_pos h]; rfl
theorem lot_fig {c : Nat} (h0 : c ∉ zLet) (h : c ∈ zFig) : (lotOf c).cps.toList = zFig := by unfold lotOf; rw [if_neg h0, if_pos h]; rfl
def scEnd (w : W) (t : Str) (acc : List D) (r : List (Str × Nat) × Option Nat) (o : Option Fl) : Prop := match r.2 with
  | none => ∃ (lap : Int) (g : Option (Str × Int × Str)), o = some (.nx (sc0 w t (acc ++ toks r.1) (t.cps.size : Nat) (.sh (.int lap)) g))
  | some b => ∃ s', o = some (.rt (.own (.lst (acc ++ toks r.1 ++ [tok "?" b]))) s') ∧ s'.w = w
theorem scEnd_cons {w : W} {t : Str} {acc : List D} {x : Str} {i : Nat} {r : List (Str × Nat) × Option Nat} {o : Option Fl} (h : scEnd w t (acc ++ [tok x i]) r o) : scEnd w t acc ((x, i) :: r.1, r.2) o := by
  unfold scEnd at h ⊢
  simp only [toks, List.map_cons, List.append_assoc, List.cons_append, List.nil_append] at h ⊢
  exact h
theorem sc_asg {w : W} {t : Str} {acc : List D} {i : Nat} {lap : Sl} {g : Option (Str × Int × Str)} (z : Int) : gNm 3 (.int z) (sc0 w t acc i lap g) = some (sc0 w t acc i (.sh (.int z)) g) := by
  match g with
  | none => simp [sc0]
  | some (g, j, lot) => simp [sc0]
theorem sc_for {w : W} {t : Str} (hl : t.cps.size < 16777216) : ∀ (laps : List Int) (k i : Nat) (acc : List D) (lap : Sl) (g : Option (Str × Int × Str)), laps.length = k → t.cps.size - i < k → i ≤ t.cps.size → acc.length + (t.cps.size - i) < 16777216 →
    scEnd w t acc (scanP t.cps.toList k i) (forS (gNm 3) scBody (laps.map D.int) (sc0 w t acc i lap g)) := by
  intro laps
  induction laps with
  | nil => intro k i acc lap g h1 h2; simp at h1; omega
  | cons z laps ih =>
    intro k i acc lap g h1 h2 h3 h4
    obtain ⟨k, rfl⟩ : ∃ n, k = n + 1 := ⟨k - 1, by simp at h1; omega⟩
    have h1 : laps.length = k := by simpa using h1
    rw [List.map_cons]
    by_cases hi : i < t.cps.size
    · have hi' : i < t.cps.toList.length := by simpa using hi
      obtain ⟨c, hc⟩ : ∃ c, c = t.cps.toList[i] := ⟨_, rfl⟩
      have hg : t.cps.toList[i]? = some c := by rw [hc]; exact List.getElem?_eq_getElem hi'
      have ha : atI t.cps.toList (i : Int) = some c := atI_nat hg
      unfold scanP
      rw [hg]
      simp only
      by_cases hb : c ∈ zBlk
      · rw [if_pos hb, forS_nx (sc_asg z) (sc_blk (by omega) hi ha (blk_let hb) (blk_fig hb) hb (blk_all hb))]
        exact ih k (i + 1) acc _ _ h1 (by omega) (by omega) (by omega)
      · rw [if_neg hb]
        by_cases h5 : c ∈ zLet
        · rw [if_pos h5, forS_nx (sc_asg z) (sc_lot (by omega) (by omega) hi ha hb (.inl h5))]
          rw [lot_let h5, ← rowEnd_in hi' (by rw [← hc]; exact h5)]
          have g1 := rowEnd_gt' hg h5
          have g2 := rowEnd_le (L := t.cps.toList) (Z := zLet) (i := i) (by simpa using h3)
          have g2 : rowEnd t.cps.toList zLet i ≤ t.cps.size := by simpa using g2
          exact scEnd_cons (ih k _ _ _ _ h1 (by omega) g2 (by rw [List.length_append, List.length_singleton]; omega))
        · rw [if_neg h5]
          by_cases h6 : c ∈ zFig
          · rw [if_pos h6, forS_nx (sc_asg z) (sc_lot (by omega) (by omega) hi ha hb (.inr h6))]
            rw [lot_fig h5 h6, ← rowEnd_in hi' (by rw [← hc]; exact h6)]
            have g1 := rowEnd_gt' hg h6
            have g2 := rowEnd_le (L := t.cps.toList) (Z := zFig) (i := i) (by simpa using h3)
            have g2 : rowEnd t.cps.toList zFig i ≤ t.cps.size := by simpa using g2
            exact scEnd_cons (ih k _ _ _ _ h1 (by omega) g2 (by rw [List.length_append, List.length_singleton]; omega))
          · rw [if_neg h6]
            by_cases h7 : c ∈ zSgn
            · rw [if_pos h7, forS_nx (sc_asg z) (sc_sgn (by omega) (by omega) hi ha h5 h6 hb (sgn_all h7))]
              exact scEnd_cons (ih k _ _ _ _ h1 (by omega) (by omega) (by rw [List.length_append, List.length_singleton]; omega))
            · rw [if_neg h7]
              obtain ⟨s', e, hw⟩ := sc_bad (w := w) (lap := z) (o := g) (by omega) (by omega : acc.length < 16777216) hi ha h5 h6 (fun q => (all_or q).elim h7 hb)
              refine ⟨s', ?_, hw⟩
              rw [forS_rt (sc_asg z) e]
              simp [toks]
    · have he : i = t.cps.size := by omega
      subst he
      have hg : t.cps.toList[t.cps.size]? = none := List.getElem?_eq_none (by simp)
      unfold scanP
      rw [hg]
      refine ⟨z, g, ?_⟩
      refine Eq.trans (forS_bk (sc_asg z) (s2 := sc0 w t acc (t.cps.size : Nat) (.sh (.int z)) g) ?_) ?_
      · unfold scBody
        unfold dSeq
        rw [scB1_end (by omega)]
        rfl
      · simp [toks]
noncomputable def scRest : TSf := dSeq (dFor (iRg1 (dCons (dOp gAdd (dCB gLen (dCons (dVar 0) dNil)) (dC (.int 1))) dNil)) (gNm 3) scBody) (dRet (dOp gAdd (dVar 1) (dLst (dCons (dTup (dCons (dC (.str "")) (dCons (dCB gLen (dCons (dVar 0) dNil)) dNil))) dNil))))
theorem scanned_t : t__law_scanned = dSeq (dPar 1 2 (dLst dNil) (dC (.int 0))) scRest := rfl
theorem scanP_len (L : List Nat) : ∀ (k i : Nat), (scanP L k i).1.length ≤ L.length - i
  | 0, i => by simp [scanP]
  | k + 1, i => by
    unfold scanP
    cases hg : L[i]? with
    | none => simp
    | some c =>
      obtain ⟨hi, -⟩ := List.getElem?_eq_some_iff.mp hg
      simp only
      by_cases h1 : c ∈ zBlk
      · rw [if_pos h1]; have := scanP_len L k (i + 1); omega
      · rw [if_neg h1]
        by_cases h2 : c ∈ zLet
        · rw [if_pos h2]; have := scanP_len L k (rowEnd L zLet i); have := rowEnd_gt' hg h2; rw [List.length_cons]; omega
        · rw [if_neg h2]
          by_cases h3 : c ∈ zFig
          · rw [if_pos h3]; have := scanP_len L k (rowEnd L zFig i); have := rowEnd_gt' hg h3; rw [List.length_cons]; omega
          · rw [if_neg h3]
            by_cases h4 : c ∈ zSgn
            · rw [if_pos h4]; have := scanP_len L k (i + 1); rw [List.length_cons]; omega
            · rw [if_neg h4]; simp
/-- the end mark -/
def endTok (n : Nat) : Option Nat → D
  | none => tok "" n
  | some b => tok "?" b
noncomputable def scRet : TSf := dRet (dOp gAdd (dVar 1) (dLst (dCons (dTup (dCons (dC (.str "")) (dCons (dCB gLen (dCons (dVar 0) dNil)) dNil))) dNil)))
noncomputable def scIt : TIf := iRg1 (dCons (dOp gAdd (dCB gLen (dCons (dVar 0) dNil)) (dC (.int 1))) dNil)
theorem scRest_eq : scRest = dSeq (dFor scIt (gNm 3) scBody) scRet := rfl
theorem sc_ret {w : W} {t : Str} (hl : t.cps.size ≤ 16777216) {acc : List D} (hacc : acc.length + 1 ≤ 16777216) {lap : Int} {g : Option (Str × Int × Str)} : ∃ s', scRet (sc0 w t acc (t.cps.size : Nat) (.sh (.int lap)) g) = some (.rt (.own (.lst (acc ++ [tok "" t.cps.size]))) s') ∧ s'.w = w := by
  have hs : t.length = t.cps.size := rfl
  match g with
  | none => simp [scRet, sc0, tok, hs, hl, hacc]
  | some (g, j, lot) => simp [scRet, sc0, tok, hs, hl, hacc]
def laps (n : Nat) : List Int := (List.range (n + 1)).map fun i => ((i : Nat) : Int)
theorem sc_it {w : W} {t : Str} (hl : t.cps.size ≤ 16777216) : scIt (sc0 w t [] ((0 : Nat) : Int) .no none) = some (.it ((laps t.cps.size).map D.int) true (sc0 w t [] ((0 : Nat) : Int) .no none)) := by
  have hs : t.length = t.cps.size := rfl
  have e1 : ((t.cps.size : Int) + 1) < 4611686018427387904 := by omega
  have e2 : ((t.cps.size : Int) + 1).toNat = t.cps.size + 1 := by omega
  have e3 : (-4611686018427387904 : Int) ≤ (t.cps.size : Int) + 1 := by omega
  have hv : (dCons (dOp gAdd (dCB gLen (dCons (dVar 0) dNil)) (dC (.int 1))) dNil) (sc0 w t [] ((0 : Nat) : Int) .no none) = some (.vals [.sh (.int ((t.cps.size : Int) + 1))] (sc0 w t [] ((0 : Nat) : Int) .no none)) := by
    simp [sc0, hs, hl]
  unfold scIt iRg1
  rw [hv, aI_val]
  simp only
  rw [if_pos e3]
  unfold rng1
  rw [if_pos e1, e2, Option.map_some]
  unfold laps
  rw [List.map_map]
  rfl
theorem scanned_for {w : W} {t : Str} (hl : t.cps.size < 16777200) : scEnd w t [] (scanP t.cps.toList (t.cps.size + 1) 0) (dFor scIt (gNm 3) scBody (sc0 w t [] ((0 : Nat) : Int) .no none)) := by
  have h1 := sc_for (w := w) (t := t) (by omega) (laps t.cps.size) (t.cps.size + 1) 0 [] .no none (by simp [laps]) (by omega) (by omega) (by simp; omega)
  have e := dFor_eq (asg := gNm 3) (body := scBody) (sc_it (w := w) (t := t) (by omega)) rfl
  have hset : settleB true (sc0 w t [] ((0 : Nat) : Int) .no none).e = (sc0 w t [] ((0 : Nat) : Int) .no none).e := by simp [sc0]
  rw [hset] at e
  rw [e]
  exact h1
theorem scanned_eq {w : W} {t : Str} (hl : t.cps.size < 16777200) : cr (fn__law_scanned w [.sh (.str t)]) = some (.ret (.own (.lst (toks (scanP t.cps.toList (t.cps.size + 1) 0).1 ++ [endTok t.cps.size (scanP t.cps.toList (t.cps.size + 1) 0).2]))) w) := by
  have h0 : (dPar 1 2 (dLst dNil) (dC (.int 0))) ⟨w, [.sh (.str t), .no, .no, .no, .no, .no, .no]⟩ = some (.nx (sc0 w t [] ((0 : Nat) : Int) .no none)) := by
    simp [sc0]
  have h1 := scanned_for (w := w) hl
  have hn := scanP_len t.cps.toList (t.cps.size + 1) 0
  generalize scanP t.cps.toList (t.cps.size + 1) 0 = r at h1 hn ⊢
  obtain ⟨r1, r2⟩ := r
  have hlen : (toks r1).length + 1 ≤ 16777216 := by
    have : (toks r1).length = r1.length := by simp [toks]
    have : r1.length ≤ t.cps.size := by simpa using hn
    omega
  have key : ∀ rr s', scRest (sc0 w t [] ((0 : Nat) : Int) .no none) = some (.rt (.own rr) s') → s'.w = w → cr (fn__law_scanned w [.sh (.str t)]) = some (.ret (.own rr) w) := fun rr s' e hw => by
    unfold fn__law_scanned
    rw [cr_runF, scanned_t]
    have e2 : (⟨w, [Sl.sh (.str t)] ++ List.replicate (7 - [Sl.sh (.str t)].length) .no⟩ : S) = ⟨w, [.sh (.str t), .no, .no, .no, .no, .no, .no]⟩ := rfl
    rw [e2, dSeq_nx h0, e, crT_own, hw]
  cases r2 with
  | none =>
    obtain ⟨lap, g, e⟩ := h1
    rw [List.nil_append] at e
    obtain ⟨s', e3, hw⟩ := sc_ret (w := w) (t := t) (by omega) hlen (lap := lap) (g := g)
    refine key _ s' ?_ hw
    rw [scRest_eq, dSeq_nx e]
    exact e3
  | some b =>
    obtain ⟨s', e, hw⟩ := h1
    rw [List.nil_append] at e
    refine key _ s' ?_ hw
    rw [scRest_eq]
    exact dSeq_rt e
end Gk11

end

section -- K11m15
set_option Elab.async false
set_option linter.all false
set_option maxRecDepth 100000
set_option maxHeartbeats 4000000
/-! the scan, said without fuel; texts made of separators and tokens -/
namespace Gk11
open PySem PySem.Spec L2 DL
/-- the scan from a place -/
def Sc (L : List Nat) (i : Nat) (r : List (Str × Nat) × Option Nat) : Prop := ∀ k, L.length - i < k → scanP L k i = r
theorem Sc.at {L : List Nat} {r : List (Str × Nat) × Option Nat} (h : Sc L 0 r) : scanP L (L.length + 1) 0 = r := h _ (by omega)
theorem sc_end {L : List Nat} {i : Nat} (h : L.length ≤ i) : Sc L i ([], none) := fun k hk => by
  obtain ⟨k, rfl⟩ : ∃ n, k = n + 1 := ⟨k - 1, by omega⟩
  unfold scanP
  rw [List.getElem?_eq_none h]
theorem sc_blank {L : List Nat} {i c : Nat} {r : List (Str × Nat) × Option Nat} (h : L[i]? = some c) (hb : c ∈ zBlk) (n : Sc L (i + 1) r) : Sc L i r := fun k hk => by
  obtain ⟨k, rfl⟩ : ∃ n, k = n + 1 := ⟨k - 1, by omega⟩
  obtain ⟨hi, -⟩ := List.getElem?_eq_some_iff.mp h
  unfold scanP
  rw [h]
  simp only
  rw [if_pos hb, n k (by omega)]
theorem sc_row {L : List Nat} {i j c : Nat} {Z : List Nat} {r : List (Str × Nat) × Option Nat} (hZ : Z = zLet ∨ Z = zFig) (h : L[i]? = some c) (hc : c ∈ Z) (hj : rowEnd L Z i = j) (n : Sc L j r) : Sc L i ((sub L i j, i) :: r.1, r.2) := fun k hk => by
  obtain ⟨k, rfl⟩ : ∃ n, k = n + 1 := ⟨k - 1, by omega⟩
  obtain ⟨hi, -⟩ := List.getElem?_eq_some_iff.mp h
  have hg := rowEnd_gt' h hc
  rw [hj] at hg
  have e := n k (by omega)
  have nb : c ∉ zBlk := fun z => by
    rcases hZ with rfl | rfl
    · exact blk_let z hc
    · exact blk_fig z hc
  unfold scanP
  rw [h]
  simp only
  rw [if_neg nb]
  rcases hZ with rfl | rfl
  · rw [if_pos hc, hj, e]
  · have nl : c ∉ zLet := by
      have : ∀ c ∈ zFig, c ∉ zLet := by decide +kernel
      exact this c hc
    rw [if_neg nl, if_pos hc, hj, e]
theorem sgn_no {c : Nat} (h : c ∈ zSgn) : c ∉ zBlk ∧ c ∉ zLet ∧ c ∉ zFig := by
  have : ∀ c ∈ zSgn, c ∉ zBlk ∧ c ∉ zLet ∧ c ∉ zFig := by decide +kernel
  exact this c h
theorem sc_sign {L : List Nat} {i c : Nat} {r : List (Str × Nat) × Option Nat} (h : L[i]? = some c) (hc : c ∈ zSgn) (n : Sc L (i + 1) r) : Sc L i ((sub L i (i + 1), i) :: r.1, r.2) := fun k hk => by
  obtain ⟨k, rfl⟩ : ∃ n, k = n + 1 := ⟨k - 1, by omega⟩
  obtain ⟨hi, -⟩ := List.getElem?_eq_some_iff.mp h
  have e := n k (by omega)
  obtain ⟨a, b, d⟩ := sgn_no hc
  unfold scanP
  rw [h]
  simp only
  rw [if_neg a, if_neg b, if_neg d, if_pos hc, e]
/-- the signs of texts -/
def okc (c : Nat) : Prop := c ∈ zBlk ∨ c ∈ zLet ∨ c ∈ zFig ∨ c ∈ zSgn
theorem sc_badc {L : List Nat} {i c : Nat} (h : L[i]? = some c) (hc : ¬ okc c) : Sc L i ([], some i) := fun k hk => by
  obtain ⟨k, rfl⟩ : ∃ n, k = n + 1 := ⟨k - 1, by omega⟩
  unfold scanP
  rw [h]
  simp only
  rw [if_neg fun z => hc (.inl z), if_neg fun z => hc (.inr (.inl z)), if_neg fun z => hc (.inr (.inr (.inl z))), if_neg fun z => hc (.inr (.inr (.inr z)))]
/-- a bad sign behind good ones is the place that is told -/
theorem rowEnd_stop {L Z : List Nat} {a c : Nat} (ha : L[a]? = some c) (hc : c ∉ Z) : ∀ (m i : Nat), a - i = m → i ≤ a → rowEnd L Z i ≤ a := by
  intro m
  obtain ⟨hla, ea⟩ := List.getElem?_eq_some_iff.mp ha
  induction m with
  | zero =>
    intro i h1 h2
    have : i = a := by omega
    subst this
    rw [rowEnd_out hla (by rw [ea]; exact hc)]
    omega
  | succ m ih =>
    intro i h1 h2
    have hl : i < L.length := by omega
    by_cases hz : L[i] ∈ Z
    · rw [rowEnd_in hl hz]
      exact ih (i + 1) (by omega) (by omega)
    · rw [rowEnd_out hl hz]; omega
theorem sc_bent {L : List Nat} {a c : Nat} (ha : L[a]? = some c) (hc : ¬ okc c) : ∀ (m i : Nat), a - i = m → i ≤ a → (∀ j x, i ≤ j → j < a → L[j]? = some x → okc x) → ∃ ps, Sc L i (ps, some a) := by
  intro m
  induction m using Nat.strongRecOn with
  | ind m ih =>
    intro i h1 h2 hok
    obtain ⟨hla, ea⟩ := List.getElem?_eq_some_iff.mp ha
    by_cases he : i = a
    · subst he; exact ⟨[], sc_badc ha hc⟩
    · have hi : i < L.length := by omega
      have hg : L[i]? = some L[i] := List.getElem?_eq_getElem hi
      have go : ∀ j, i < j → j ≤ a → ∃ ps, Sc L j (ps, some a) := fun j g1 g2 => ih (a - j) (by omega) j rfl g2 fun x y z u v => hok x y (by omega) u v
      rcases hok i _ (Nat.le_refl _) (by omega) hg with z | z | z | z
      · obtain ⟨ps, e⟩ := go (i + 1) (by omega) (by omega)
        exact ⟨ps, sc_blank hg z e⟩
      · obtain ⟨ps, e⟩ := go _ (rowEnd_gt' hg z) (rowEnd_stop ha (fun q => hc (.inr (.inl q))) _ i rfl h2)
        exact ⟨_, sc_row (.inl rfl) hg z rfl e⟩
      · obtain ⟨ps, e⟩ := go _ (rowEnd_gt' hg z) (rowEnd_stop ha (fun q => hc (.inr (.inr (.inl q)))) _ i rfl h2)
        exact ⟨_, sc_row (.inr rfl) hg z rfl e⟩
      · obtain ⟨ps, e⟩ := go (i + 1) (by omega) (by omega)
        exact ⟨_, sc_sign hg z e⟩
/-- good signs alone: no bad place -/
theorem sc_good {L : List Nat} : ∀ (m i : Nat), L.length - i = m → (∀ j x, i ≤ j → L[j]? = some x → okc x) → ∃ ps, Sc L i (ps, none) := by
  intro m
  induction m using Nat.strongRecOn with
  | ind m ih =>
    intro i h1 hok
    by_cases hi : i < L.length
    · have hg : L[i]? = some L[i] := List.getElem?_eq_getElem hi
      have go : ∀ j, i < j → ∃ ps, Sc L j (ps, none) := fun j g1 => ih (L.length - j) (by omega) j rfl fun x y z v => hok x y (by omega) v
      rcases hok i _ (Nat.le_refl _) hg with z | z | z | z
      · obtain ⟨ps, e⟩ := go (i + 1) (by omega)
        exact ⟨ps, sc_blank hg z e⟩
      · obtain ⟨ps, e⟩ := go _ (rowEnd_gt' hg z)
        exact ⟨_, sc_row (.inl rfl) hg z rfl e⟩
      · obtain ⟨ps, e⟩ := go _ (rowEnd_gt' hg z)
        exact ⟨_, sc_row (.inr rfl) hg z rfl e⟩
      · obtain ⟨ps, e⟩ := go (i + 1) (by omega)
        exact ⟨_, sc_sign hg z e⟩
    · exact ⟨[], sc_end (by omega)⟩
/-! ### texts of separators and tokens -/
/-- the signs of one token -/
inductive Tk : List Nat → Prop
  | row {Z l} : (Z = zLet ∨ Z = zFig) → l ≠ [] → (∀ c ∈ l, c ∈ Z) → Tk l
  | sgn {c} : c ∈ zSgn → Tk [c]
/-- what may stand behind a token at once -/
def Apart (l r : List Nat) : Prop := ∀ c, r.head? = some c → ∀ Z, Z = zLet ∨ Z = zFig → (∃ d ∈ l, d ∈ Z) → c ∉ Z
/-- separators and tokens, and the last blanks -/
def flat (ss : List (List Nat × List Nat)) (e : List Nat) : List Nat := match ss with
  | [] => e
  | p :: ss => p.1 ++ p.2 ++ flat ss e
/-- they stand well -/
def Well (ss : List (List Nat × List Nat)) (e : List Nat) : Prop := match ss with
  | [] => ∀ c ∈ e, c ∈ zBlk
  | p :: ss => (∀ c ∈ p.1, c ∈ zBlk) ∧ Tk p.2 ∧ Apart p.2 (flat ss e) ∧ Well ss e
/-- the tokens with their places -/
def places (ss : List (List Nat × List Nat)) (i : Nat) : List (Str × Nat) := match ss with
  | [] => []
  | p :: ss => (⟨p.2.toArray⟩, i + p.1.length) :: places ss (i + p.1.length + p.2.length)
theorem drop_get {L r : List Nat} {i c : Nat} (h : L.drop i = c :: r) : L[i]? = some c := by
  have e := congrArg (fun l => l[0]?) h
  simpa [List.getElem?_drop] using e
theorem sc_blanks {L : List Nat} {r : List (Str × Nat) × Option Nat} : ∀ (b : List Nat) (i : Nat) (rest : List Nat), L.drop i = b ++ rest → (∀ c ∈ b, c ∈ zBlk) → Sc L (i + b.length) r → Sc L i r
  | [], i, rest, _, _, n => n
  | c :: b, i, rest, h, hb, n => by
    have hg : L[i]? = some c := drop_get h
    refine sc_blank hg (hb c List.mem_cons_self) (sc_blanks b (i + 1) rest ?_ (fun x hx => hb x (List.mem_cons_of_mem _ hx)) ?_)
    · rw [← List.drop_drop, h]; rfl
    · have e : i + 1 + b.length = i + (c :: b).length := by rw [List.length_cons]; omega
      rw [e]; exact n
theorem sub_tok {L l rest : List Nat} {i : Nat} (h : L.drop i = l ++ rest) : sub L i (i + l.length) = ⟨l.toArray⟩ := by
  unfold sub
  rw [h, Nat.add_sub_cancel_left, List.take_left' rfl]
theorem rowEnd_tok {L l rest Z : List Nat} {i : Nat} (h : L.drop i = l ++ rest) (hl : ∀ c ∈ l, c ∈ Z) (hr : ∀ c, rest.head? = some c → c ∉ Z) : rowEnd L Z i = i + l.length := by
  unfold rowEnd
  rw [h, List.takeWhile_append_of_pos (by simpa using hl)]
  cases rest with
  | nil => simp
  | cons c r => rw [List.takeWhile_cons_of_neg (by simpa using hr c rfl)]; simp
theorem sc_tok {L l rest : List Nat} {i : Nat} {r : List (Str × Nat) × Option Nat} (h : L.drop i = l ++ rest) (tk : Tk l) (ap : Apart l rest) (n : Sc L (i + l.length) r) : Sc L i ((⟨l.toArray⟩, i) :: r.1, r.2) := by
  rw [← sub_tok h]
  cases tk with
  | row hZ hne hl =>
    obtain ⟨c, l', rfl⟩ := List.exists_cons_of_ne_nil hne
    have hg : L[i]? = some c := drop_get h
    refine sc_row hZ hg (hl c List.mem_cons_self) (rowEnd_tok h hl ?_) n
    intro d hd
    exact ap d hd _ hZ ⟨c, List.mem_cons_self, hl c List.mem_cons_self⟩
  | sgn hc =>
    rename_i c
    have hg : L[i]? = some c := drop_get h
    exact sc_sign hg hc n
theorem sc_flat {L : List Nat} {e : List Nat} : ∀ (ss : List (List Nat × List Nat)) (i : Nat), L.drop i = flat ss e → Well ss e → Sc L i (places ss i, none)
  | [], i, h, hw => by
    refine sc_blanks e i [] (by rw [h]; unfold flat; simp) hw (sc_end ?_)
    have := congrArg List.length h
    rw [List.length_drop] at this
    unfold flat at this
    omega
  | p :: ss, i, h, hw => by
    obtain ⟨h1, h2, h3, h4⟩ := hw
    unfold flat at h
    rw [List.append_assoc] at h
    refine sc_blanks p.1 i _ h h1 ?_
    have d1 : L.drop (i + p.1.length) = p.2 ++ flat ss e := by rw [← List.drop_drop, h, List.drop_left' rfl]
    have d2 : L.drop (i + p.1.length + p.2.length) = flat ss e := by rw [← List.drop_drop, d1, List.drop_left' rfl]
    exact sc_tok d1 h2 h3 (sc_flat ss _ d2 h4)
theorem sc_whole {ss : List (List Nat × List Nat)} {e : List Nat} (h : Well ss e) : scanP (flat ss e) ((flat ss e).length + 1) 0 = (places ss 0, none) := (sc_flat ss 0 (by simp) h).at
theorem places_fst : ∀ (ss : List (List Nat × List Nat)) (i : Nat), (places ss i).map (·.1) = ss.map fun p => ⟨p.2.toArray⟩
  | [], _ => rfl
  | p :: ss, i => by unfold places; rw [List.map_cons, List.map_cons, places_fst ss]
end Gk11

end

section -- K11m16
set_option Elab.async false
set_option linter.all false
set_option maxRecDepth 100000
set_option maxHeartbeats 4000000
/-! drawn tokens -/
namespace Gk11
open PySem PySem.Spec L2 DL
section
variable {T0 : List (Addr × Str)} {m : Int}
theorem take_cr (hm : m < 281474976710656) {w : W} (g : Good T0 m w) {high : Int} (h : 0 < high) (h2 : high < 1073741824) : ∃ (x : Int) (w' : W), cr (fn__law_take w [.dr, .sh (.int high)]) = some (.ret (.sh (.int x)) w') ∧ Good T0 (m + 1) w' ∧ 0 ≤ x ∧ x < high := by
  obtain ⟨x, w', e, e1, r⟩ := take_eq hm w g high h h2
  exact ⟨x, w', cr_of e1, r⟩
theorem pick_cr (hm : m < 281474976710656) {w : W} (g : Good T0 m w) {l : List D} (hl : l ≠ []) (h2 : l.length < 1073741824) : ∃ (x : D) (w' : W), cr (fn__law_pick w [.dr, .sh (.lst l)]) = some (.ret (.sh x) w') ∧ Good T0 (m + 1) w' ∧ x ∈ l := by
  obtain ⟨x, w', e, e1, r⟩ := pick_eq hm w g l hl h2
  exact ⟨x, w', cr_of e1, r⟩
theorem pickT_cr (hm : m < 281474976710656) {w : W} (g : Good T0 m w) {l : List D} (hl : l ≠ []) (h2 : l.length < 1073741824) : ∃ (x : D) (w' : W), cr (fn__law_pick w [.dr, .sh (.tup l)]) = some (.ret (.sh x) w') ∧ Good T0 (m + 1) w' ∧ x ∈ l := by
  obtain ⟨x, w', e, e1, r⟩ := pick_tup hm w g l hl h2
  exact ⟨x, w', cr_of e1, r⟩
def one (c : Nat) : D := .str ⟨#[c]⟩
def strL (l : List Nat) : D := .str ⟨l.toArray⟩
theorem signs_eq (S : Str) : signs S = S.cps.toList.map one := rfl
/-- single signs put together -/
theorem join_ones (l : List Nat) (h : l.length ≤ 16777216) : joinD "" (l.map one) = some (.sh (strL l)) := by
  have e1 : l.map one = (l.map fun c => (⟨#[c]⟩ : Str)).map D.str := by rw [List.map_map]; rfl
  have e2 : ∀ l : List Nat, ((l.map fun c => (⟨#[c]⟩ : Str)).map (·.length)).sum = l.length := fun l => by
    induction l with
    | nil => rfl
    | cons c l ih => rw [List.map_cons, List.map_cons, List.sum_cons, ih, List.length_cons]; show 1 + l.length = _; omega
  have e3 : TL.tl (Txt.join "" (l.map fun c => (⟨#[c]⟩ : Str))) = l := by
    rw [TL.join_eq, TL.tl_join]
    have : ∀ l : List Nat, TL.joinL (TL.tl "") ((l.map fun c => (⟨#[c]⟩ : Str)).map TL.tl) = l := fun l => by
      induction l with
      | nil => rfl
      | cons c l ih =>
        cases l with
        | nil => rfl
        | cons d r =>
          rw [List.map_cons, List.map_cons, List.map_cons, List.map_cons, TL.joinL]
          rw [List.map_cons, List.map_cons] at ih
          rw [ih]
          rfl
    exact this l
  unfold joinD
  rw [e1, strsOf_map]
  simp only
  have e4 : ("" : Str).length = 0 := rfl
  rw [if_pos (by rw [e2, e4]; omega)]
  unfold strL
  congr 3
  rw [← TL.mk_tl (Txt.join "" _), e3]
/-- picked signs -/
noncomputable def tPk (Z : Str) : TEf := dCall (fn__law_pick) (dCons (dVar 0) (dCons (dCB gListS (dCons (dC (.str Z)) dNil)) dNil))
def dtS (w : W) (f : List D) (lap way size : Int) : S := ⟨w, [.dr, .own (.lst f), .sh (.int lap), .sh (.int way), .sh (.int size), .no]⟩
theorem picks_lc {Z : Str} (hS : Z.cps.toList ≠ []) (hS2 : Z.cps.size < 1000) (f : List D) (lap way size : Int) : ∀ (ls : List Nat) (m : Int) (w : W) (acc : List Nat), Good T0 m w → m + ls.length < 281474976710656 → acc.length + ls.length ≤ 1000 →
    ∃ (l : List Nat) (w' : W), lcS (gNm 5) dYes (tPk Z) [5] (ls.map fun i => .int (i : Nat)) (acc.map one) (dtS w f lap way size) = some (.done ((acc ++ l).map one) (dtS w' f lap way size)) ∧ Good T0 (m + ls.length) w' ∧ l.length = ls.length ∧ ∀ c ∈ l, c ∈ Z.cps.toList
  | [], m, w, acc, g, _, _ => ⟨[], w, by simp [lcS], by simpa using g, rfl, by simp⟩
  | i :: ls, m, w, acc, g, hm, ha => by
    rw [List.length_cons] at hm ha
    have hne : signs Z ≠ [] := by rw [signs_eq]; simpa using hS
    have hl : Z.length ≤ 16777216 := by show Z.cps.size ≤ _; omega
    obtain ⟨x, w1, e1, g1, hx⟩ := pick_cr (by omega : m < 281474976710656) g hne (by rw [signs_eq, List.length_map]; simp; omega)
    obtain ⟨c, hc, rfl⟩ := List.mem_map.mp (signs_eq Z ▸ hx)
    obtain ⟨l, w', e, g2, h3, h4⟩ := picks_lc hS hS2 f lap way size ls (m + 1) w1 (acc ++ [c]) g1 (by omega) (by rw [List.length_append, List.length_singleton]; omega)
    refine ⟨c :: l, w', ?_, g2.mono (by rw [List.length_cons]; omega), by rw [List.length_cons, List.length_cons, h3], fun d hd => ?_⟩
    · rw [List.map_cons]
      unfold lcS
      have h0 : ((D.int (i : Nat)).imm || noLck (dtS w f lap way size).e) = true := by simp
      rw [if_pos h0]
      have h1 : gNm 5 (.int (i : Nat)) (dtS w f lap way size) = some ⟨w, [.dr, .own (.lst f), .sh (.int lap), .sh (.int way), .sh (.int size), .sh (.int i)]⟩ := by simp [dtS]
      have h2 : tPk Z ⟨w, [.dr, .own (.lst f), .sh (.int lap), .sh (.int way), .sh (.int size), .sh (.int i)]⟩ = some (.val (.sh (one c)) ⟨w1, [.dr, .own (.lst f), .sh (.int lap), .sh (.int way), .sh (.int size), .sh (.int i)]⟩) := by
        unfold tPk
        rw [dCall_cr]
        simp [-dCall, hl, e1]
      have h5 : (⟨w1, wipeE [.dr, .own (.lst f), .sh (.int lap), .sh (.int way), .sh (.int size), .sh (.int i)] [5]⟩ : S) = dtS w1 f lap way size := by simp [dtS]
      have h6 : acc.map one ++ [one c] = (acc ++ [c]).map one := by simp
      have h7 : (acc.map one).length < 16777216 := by rw [List.length_map]; omega
      simp only [h1, dYes, h2, Sl.dat]
      rw [if_pos h7, h5, h6, e]
      simp
    · rcases List.mem_cons.mp hd with rfl | hd
      · exact hc
      · exact h4 d hd
/-- a row of drawn signs -/
noncomputable def rowD (Z : Str) : TSf := dApp 1 (dBM isStr gJoin (dC (.str "")) (dCons (dLc (iRg1 (dCons (dVar 4) dNil)) (gNm 5) dYes (tPk Z) [5]) dNil))
theorem rowD_eq {Z : Str} (hS : Z.cps.toList ≠ []) (hS2 : Z.cps.size < 1000) {f : List D} (hf : f.length < 1000) {lap way : Int} {size : Nat} (h1 : size ≤ 100) {w : W} (g : Good T0 m w) (hm : m + 100 < 281474976710656) :
    ∃ (l : List Nat) (w' : W), rowD Z (dtS w f lap way size) = some (.nx (dtS w' (f ++ [strL l]) lap way size)) ∧ Good T0 (m + 100) w' ∧ l.length = size ∧ ∀ c ∈ l, c ∈ Z.cps.toList := by
  obtain ⟨l, w', e, g2, h3, h4⟩ := picks_lc hS hS2 f lap way size (List.range size) m w [] g (by simp; omega) (by simp; omega)
  rw [List.length_range] at h3
  refine ⟨l, w', ?_, g2.mono (by simp; omega), h3, h4⟩
  have hi : iRg1 (dCons (dVar 4) dNil) (dtS w f lap way size) = some (.it ((List.range size).map fun i => .int (i : Nat)) true (dtS w f lap way size)) := by
    rw [iRg1_rg]
    have : (dCons (dVar 4) dNil) (dtS w f lap way size) = some (.vals [.sh (.int size)] (dtS w f lap way size)) := by simp [dtS]
    rw [this, aI_val]
    exact rgI_eq rfl (by omega)
  have hlc : dLc (iRg1 (dCons (dVar 4) dNil)) (gNm 5) dYes (tPk Z) [5] (dtS w f lap way size) = some (.val (.own (.lst (l.map one))) (dtS w' f lap way size)) := by
    refine dLc_eq hi ?_
    have : (⟨(dtS w f lap way size).w, wipeE (dtS w f lap way size).e [5]⟩ : S) = dtS w f lap way size := by simp [dtS]
    rw [this]
    exact e
  have hj := join_ones l (by omega)
  unfold rowD dApp
  have h0 : (dtS w f lap way size).e[1]? = some (.own (.lst f)) := rfl
  rw [h0]
  simp only
  have hb : ∀ u : TAf, u (dtS w f lap way size) = some (.vals [.sh (.lst (l.map one))] (dtS w' f lap way size)) → dBM isStr gJoin (dC (.str "")) u (dtS w f lap way size) = some (.val (.sh (strL l)) (dtS w' f lap way size)) := by
    intro u hu
    simp [hu, hj]
  rw [hb _ (dCons1_eq hlc)]
  have hf2 : f.length < 16777216 := by omega
  simp [dtS, strL, hf2]
end
end Gk11

end

section -- K11m17
set_option Elab.async false
set_option linter.all false
set_option maxRecDepth 100000
set_option maxHeartbeats 4000000
/-! _law_drawn_tokens -/
namespace Gk11
open PySem PySem.Spec L2 DL
section
variable {T0 : List (Addr × Str)} {m : Int}
noncomputable def dtB1 : TSf := dPar 3 4 (dCall (fn__law_take) (dCons (dVar 0) (dCons (dC (.int 4)) dNil))) (dOp gAdd (dC (.int 1)) (dCall (fn__law_take) (dCons (dVar 0) (dCons (dCall (fn__law_pick) (dCons (dVar 0) (dCons (dLst (dCons (dC (.int 3)) (dCons (dC (.int 12)) (dCons (dC (.int 70)) dNil)))) dNil))) dNil))))
noncomputable def dtW1 : TEf := dLst (dCons (dC (.str ",")) (dCons (dC (.str ";")) (dCons (dC (.str ":")) (dCons (dC (.str "/")) (dCons (dC (.str "-")) dNil)))))
noncomputable def dtW2 : TEf := dLst (dCons (dC (.str "look")) (dCons (dC (.str "kind")) (dCons (dC (.str "columns")) (dCons (dC (.str "web")) (dCons (dC (.str "told")) (dCons (dC (.str "0")) (dCons (dC (.str "00")) dNil)))))))
noncomputable def dtB3 : TSf := dApp 1 (dCall (fn__law_pick) (dCons (dVar 0) (dCons (dIf (dTest (dOp gEq (dVar 3) (dC (.int 2)))) dtW1 dtW2) dNil)))
noncomputable def dtB2 : TSf := dIfS (dTest (dOp gEq (dVar 3) (dC (.int 0)))) (rowD "abcdefghijklmnopqrstuvwxyz") (dIfS (dTest (dOp gEq (dVar 3) (dC (.int 1)))) (rowD "0123456789") dtB3)
theorem drawn_t : t__law_drawn_tokens = dSeq (dSet 1 (dLst dNil)) (dSeq (dFor (iRg1 (dCons (dCall (fn__law_take) (dCons (dVar 0) (dCons (dC (.int 14)) dNil))) dNil)) (gNm 2) (dSeq dtB1 dtB2)) (dRet (dVar 1))) := rfl
def dt0 (w : W) (f : List D) (lap : Sl) (b c : Option D) : S := ⟨w, [.dr, .own (.lst f), lap, So b, So c, .no]⟩
theorem dtB1_eq (hm : m + 10 < 281474976710656) {w : W} (g : Good T0 m w) (f : List D) (lap : Int) (b c : Option D) : ∃ (way : Int) (size : Nat) (w' : W), dtB1 (dt0 w f (.sh (.int lap)) b c) = some (.nx (dtS w' f lap way size)) ∧ Good T0 (m + 3) w' ∧ 1 ≤ size ∧ size ≤ 70 := by
  obtain ⟨way, w1, e1, g1, -, -⟩ := take_cr (by omega) g (high := 4) (by decide) (by decide)
  obtain ⟨x, w2, e2, g2, hx⟩ := pick_cr (by omega) g1 (l := [.int 3, .int 12, .int 70]) (by simp) (by simp)
  have hx2 : ∃ z : Int, x = .int z ∧ 0 < z ∧ z ≤ 70 := by
    simp only [List.mem_cons, List.not_mem_nil, or_false] at hx
    rcases hx with rfl | rfl | rfl
    · exact ⟨3, rfl, by decide, by decide⟩
    · exact ⟨12, rfl, by decide, by decide⟩
    · exact ⟨70, rfl, by decide, by decide⟩
  obtain ⟨z, rfl, h1, h2⟩ := hx2
  obtain ⟨y, w3, e3, g3, h3, h4⟩ := take_cr (by omega) g2 (high := z) h1 (by omega)
  refine ⟨way, (y + 1).toNat, w3, ?_, g3.mono (by omega), by omega, by omega⟩
  have e5 : ((y + 1).toNat : Int) = 1 + y := by omega
  unfold dtB1
  simp [-dCall, dt0, dtS, e1, e2, e3, e5, dCall_cr]
/-- one of the given words -/
theorem word_of {x : D} {l : List Str} (h : x ∈ l.map D.str) (hl : ∀ z ∈ l, Tk z.cps.toList ∧ z.cps.size ≤ 70) : ∃ t, x = strL t ∧ Tk t ∧ t.length ≤ 70 := by
  obtain ⟨z, hz, rfl⟩ := List.mem_map.mp h
  obtain ⟨a, b⟩ := hl z hz
  exact ⟨z.cps.toList, rfl, a, by simpa using b⟩
theorem dtB3_eq (hm : m + 10 < 281474976710656) {w : W} (g : Good T0 m w) {f : List D} (hf : f.length < 1000) (lap way : Int) (size : Nat) : ∃ (t : List Nat) (w' : W), dtB3 (dtS w f lap way size) = some (.nx (dtS w' (f ++ [strL t]) lap way size)) ∧ Good T0 (m + 1) w' ∧ Tk t ∧ t.length ≤ 70 := by
  have hf2 : f.length < 16777216 := by omega
  by_cases h : way = 2
  · subst h
    obtain ⟨x, w1, e1, g1, hx⟩ := pick_cr (by omega) g (l := [.str ",", .str ";", .str ":", .str "/", .str "-"]) (by simp) (by simp)
    obtain ⟨t, rfl, h1, h2⟩ := word_of (l := [",", ";", ":", "/", "-"]) hx (by
      intro z hz
      simp only [List.mem_cons, List.not_mem_nil, or_false] at hz
      rcases hz with rfl | rfl | rfl | rfl | rfl <;> exact ⟨.sgn (by decide), by decide⟩)
    refine ⟨t, w1, ?_, g1, h1, h2⟩
    unfold dtB3
    simp [-dCall, dtS, dtW1, dCall_cr, e1, hf2, strL]
  · obtain ⟨x, w1, e1, g1, hx⟩ := pick_cr (by omega) g (l := [.str "look", .str "kind", .str "columns", .str "web", .str "told", .str "0", .str "00"]) (by simp) (by simp)
    obtain ⟨t, rfl, h1, h2⟩ := word_of (l := ["look", "kind", "columns", "web", "told", "0", "00"]) hx (by
      intro z hz
      simp only [List.mem_cons, List.not_mem_nil, or_false] at hz
      rcases hz with rfl | rfl | rfl | rfl | rfl | rfl | rfl
      · exact ⟨.row (.inl rfl) (by decide) (by decide), by decide⟩
      · exact ⟨.row (.inl rfl) (by decide) (by decide), by decide⟩
      · exact ⟨.row (.inl rfl) (by decide) (by decide), by decide⟩
      · exact ⟨.row (.inl rfl) (by decide) (by decide), by decide⟩
      · exact ⟨.row (.inl rfl) (by decide) (by decide), by decide⟩
      · exact ⟨.row (.inr rfl) (by decide) (by decide), by decide⟩
      · exact ⟨.row (.inr rfl) (by decide) (by decide), by decide⟩)
    refine ⟨t, w1, ?_, g1, h1, h2⟩
    unfold dtB3
    simp [-dCall, dtS, dtW2, dCall_cr, e1, hf2, h, strL]
theorem dt_turn (hm : m + 200 < 281474976710656) {w : W} (g : Good T0 m w) {f : List D} (hf : f.length < 1000) (lap : Int) (b c : Option D) : ∃ (t : List Nat) (w' : W) (b' c' : Option D), dSeq dtB1 dtB2 (dt0 w f (.sh (.int lap)) b c) = some (.nx (dt0 w' (f ++ [strL t]) (.sh (.int lap)) b' c')) ∧ Good T0 (m + 103) w' ∧ Tk t ∧ t.length ≤ 70 := by
  obtain ⟨way, size, w1, e1, g1, h1, h2⟩ := dtB1_eq (by omega) g f lap b c
  have hcalm : ∀ s : S, (s = dtS w1 f lap way size) → (⟨s.w, calmE s.e⟩ : S) = dtS w1 f lap way size := by rintro s rfl; simp [dtS]
  have q0 : (dTest (dOp gEq (dVar 3) (dC (.int 0)))) (dtS w1 f lap way size) = some (.tv (decide (way = 0)) (dtS w1 f lap way size)) := by simp [dtS]
  have q1 : (dTest (dOp gEq (dVar 3) (dC (.int 1)))) (dtS w1 f lap way size) = some (.tv (decide (way = 1)) (dtS w1 f lap way size)) := by simp [dtS]
  rw [dSeq_nx e1]
  unfold dtB2
  by_cases h : way = 0
  · rw [decide_eq_true h] at q0
    obtain ⟨l, w2, e2, g2, h3, h4⟩ := rowD_eq (Z := "abcdefghijklmnopqrstuvwxyz") (by decide) (by decide) hf (lap := lap) (way := way) (size := size) (by omega) g1 (by omega)
    refine ⟨l, w2, some (.int way), some (.int size), ?_, g2.mono (by omega), .row (.inl rfl) (fun z => by rw [z] at h3; simp at h3; omega) h4, by omega⟩
    rw [dIfS_true q0, hcalm _ rfl, e2]; rfl
  · rw [decide_eq_false h] at q0
    rw [dIfS_false q0, hcalm _ rfl]
    by_cases h5 : way = 1
    · rw [decide_eq_true h5] at q1
      obtain ⟨l, w2, e2, g2, h3, h4⟩ := rowD_eq (Z := "0123456789") (by decide) (by decide) hf (lap := lap) (way := way) (size := size) (by omega) g1 (by omega)
      refine ⟨l, w2, some (.int way), some (.int size), ?_, g2.mono (by omega), .row (.inr rfl) (fun z => by rw [z] at h3; simp at h3; omega) h4, by omega⟩
      rw [dIfS_true q1, hcalm _ rfl, e2]; rfl
    · rw [decide_eq_false h5] at q1
      obtain ⟨t, w2, e2, g2, h3, h4⟩ := dtB3_eq (by omega) g1 hf lap way size
      refine ⟨t, w2, some (.int way), some (.int size), ?_, g2.mono (by omega), h3, h4⟩
      rw [dIfS_false q1, hcalm _ rfl, e2]; rfl
theorem dt_for : ∀ (ls : List Nat) (m : Int) (w : W) (tks : List (List Nat)) (lap : Sl) (b c : Option D), Good T0 m w → m + 103 * ls.length + 200 < 281474976710656 → tks.length + ls.length < 1000 →
    (∀ t ∈ tks, Tk t ∧ t.length ≤ 70) → (lap = .no ∨ ∃ z, lap = .sh (.int z)) → ∃ (tks' : List (List Nat)) (w' : W) (lap' : Sl) (b' c' : Option D), forS (gNm 2) (dSeq dtB1 dtB2) (ls.map fun i => .int (i : Nat)) (dt0 w (tks.map strL) lap b c) = some (.nx (dt0 w' (tks'.map strL) lap' b' c')) ∧ Good T0 (m + 103 * ls.length) w' ∧
      tks'.length = tks.length + ls.length ∧ (∀ t ∈ tks', Tk t ∧ t.length ≤ 70) ∧ (lap' = .no ∨ ∃ z, lap' = .sh (.int z))
  | [], m, w, tks, lap, b, c, g, _, _, h, hl => ⟨tks, w, lap, b, c, rfl, by simpa using g, rfl, h, hl⟩
  | i :: ls, m, w, tks, lap, b, c, g, hm, hn, h, hl => by
    rw [List.length_cons] at hm hn
    obtain ⟨t, w1, b1, c1, e1, g1, h1, h2⟩ := dt_turn (by omega) g (f := tks.map strL) (by simp; omega) (i : Nat) b c
    have h3 : (tks ++ [t]).map strL = tks.map strL ++ [strL t] := by simp
    rw [← h3] at e1
    obtain ⟨tks', w', lap', b', c', e, g2, h4, h5, h6⟩ := dt_for ls (m + 103) w1 (tks ++ [t]) (.sh (.int (i : Nat))) b1 c1 g1 (by omega) (by simp; omega) (by
      intro x hx
      rcases List.mem_append.mp hx with hx | hx
      · exact h x hx
      · rw [List.mem_singleton.mp hx]; exact ⟨h1, h2⟩) (.inr ⟨_, rfl⟩)
    refine ⟨tks', w', lap', b', c', ?_, g2.mono (by rw [List.length_cons]; omega), by rw [h4]; simp; omega, h5, h6⟩
    rw [List.map_cons]
    exact (forS_nx (by simp [dt0]) e1).trans e
theorem drawn_eq (hm : m + 2000 < 281474976710656) {w : W} (g : Good T0 m w) : ∃ (tks : List (List Nat)) (w' : W), cr (fn__law_drawn_tokens w [.dr]) = some (.ret (.sh (.lst (tks.map strL))) w') ∧ Good T0 (m + 1400) w' ∧ tks.length ≤ 13 ∧ ∀ t ∈ tks, Tk t ∧ t.length ≤ 70 := by
  obtain ⟨n, w1, e1, g1, h1, h2⟩ := take_cr (by omega) g (high := 14) (by decide) (by decide)
  obtain ⟨tks, w2, lap, b, c, e2, g2, h3, h4, h5⟩ := dt_for (List.range n.toNat) (m + 1) w1 [] .no none none g1 (by simp; omega) (by simp; omega) (by simp) (.inl rfl)
  rw [List.length_range] at g2 h3
  refine ⟨tks, w2, ?_, g2.mono (by omega), by rw [h3]; simp; omega, h4⟩
  unfold fn__law_drawn_tokens
  rw [cr_runF, drawn_t]
  have h0 : (dSet 1 (dLst dNil)) ⟨w, [Sl.dr] ++ List.replicate (6 - [Sl.dr].length) .no⟩ = some (.nx (dt0 w [] .no none none)) := by simp [dt0, So]
  rw [dSeq_nx h0]
  have hi : iRg1 (dCons (dCall (fn__law_take) (dCons (dVar 0) (dCons (dC (.int 14)) dNil))) dNil) (dt0 w [] .no none none) = some (.it ((List.range n.toNat).map fun i => .int (i : Nat)) true (dt0 w1 [] .no none none)) := by
    rw [iRg1_rg]
    have hc : dCall (fn__law_take) (dCons (dVar 0) (dCons (dC (.int 14)) dNil)) (dt0 w [] .no none none) = some (.val (.sh (.int n)) (dt0 w1 [] .no none none)) := by
      refine dCall_eq (s2 := dt0 w [] .no none none) ?_ e1
      simp [dt0]
    rw [dCons1_eq hc, aI_val]
    exact rgI_eq (by omega) (by omega)
  have hs : (⟨(dt0 w1 [] .no none none).w, settleB true (dt0 w1 [] .no none none).e⟩ : S) = dt0 w1 [] .no none none := by simp [dt0, So]
  rw [dSeq_nx (dFor_eq hi (by rw [hs]; exact e2))]
  rcases h5 with rfl | ⟨z, rfl⟩ <;> simp [dt0]
end
end Gk11

end

section -- K11m18
set_option Elab.async false
set_option linter.all false
set_option maxRecDepth 100000
set_option maxHeartbeats 4000000
/-! _law_spread -/
namespace Gk11
open PySem PySem.Spec L2 DL
theorem al_let : ∀ c ∈ zLet, Unicode.isAlpha c = true := by decide +kernel
theorem dg_fig : ∀ c ∈ zFig, Unicode.isDigit c = true := by decide +kernel
theorem tk_alpha {l : List Nat} (h : Tk l) (hx : ∃ d ∈ l, d ∈ zLet) : Txt.isalpha ⟨l.toArray⟩ = true := by
  obtain ⟨d, hd, hz⟩ := hx
  cases h with
  | row hZ hne hl =>
    rename_i Z
    have : Z = zLet := by
      rcases hZ with e | e
      · exact e
      · subst e
        have q : ∀ c ∈ zFig, c ∉ zLet := by decide +kernel
        exact absurd hz (q d (hl d hd))
    subst this
    have e1 : 0 < l.length := List.length_pos_iff.mpr hne
    unfold Txt.isalpha
    rw [Bool.and_eq_true]
    refine ⟨decide_eq_true (by show l.toArray.size > 0; simpa using e1), ?_⟩
    rw [Array.all_eq_true_iff_forall_mem]
    intro c hc
    exact al_let c (hl c (by simpa using hc))
  | sgn hc =>
    rw [List.mem_singleton.mp hd] at hz
    exact absurd hz (sgn_no hc).2.1
theorem tk_digit {l : List Nat} (h : Tk l) (hx : ∃ d ∈ l, d ∈ zFig) : Txt.isdigit ⟨l.toArray⟩ = true := by
  obtain ⟨d, hd, hz⟩ := hx
  cases h with
  | row hZ hne hl =>
    rename_i Z
    have : Z = zFig := by
      rcases hZ with e | e
      · subst e
        have q : ∀ c ∈ zFig, c ∉ zLet := by decide +kernel
        exact absurd (hl d hd) (q d hz)
      · exact e
    subst this
    have e1 : 0 < l.length := List.length_pos_iff.mpr hne
    unfold Txt.isdigit
    rw [Bool.and_eq_true]
    refine ⟨decide_eq_true (by show l.toArray.size > 0; simpa using e1), ?_⟩
    rw [Array.all_eq_true_iff_forall_mem]
    intro c hc
    exact dg_fig c (hl c (by simpa using hc))
  | sgn hc =>
    rw [List.mem_singleton.mp hd] at hz
    exact absurd hz (sgn_no hc).2.2
theorem Tk.ne {l : List Nat} (h : Tk l) : l ≠ [] := by
  cases h with
  | row _ h _ => exact h
  | sgn _ => simp
/-- they may stand side by side -/
def Dif (l r : List Nat) : Prop := (Txt.isalpha ⟨l.toArray⟩ && Txt.isalpha ⟨r.toArray⟩ || Txt.isdigit ⟨l.toArray⟩ && Txt.isdigit ⟨r.toArray⟩) = false
theorem Dif.apart {l r rest : List Nat} (h : Dif l r) (hl : Tk l) (hr : Tk r) : Apart l (r ++ rest) := by
  intro c hc Z hZ hx hz
  obtain ⟨d, r', rfl⟩ := List.exists_cons_of_ne_nil hr.ne
  have : d = c := by simpa using hc
  subst this
  unfold Dif at h
  rcases hZ with rfl | rfl
  · rw [tk_alpha hl hx, tk_alpha hr ⟨d, List.mem_cons_self, hz⟩] at h
    simp at h
  · rw [tk_digit hl hx, tk_digit hr ⟨d, List.mem_cons_self, hz⟩] at h
    simp at h
/-- separators and tokens so far -/
def Chain (ss : List (List Nat × List Nat)) : Prop := match ss with
  | [] => True
  | p :: ss => (∀ c ∈ p.1, c ∈ zBlk) ∧ Tk p.2 ∧ (match ss with | [] => True | q :: _ => q.1 = [] → Dif p.2 q.2) ∧ Chain ss
theorem chain_snoc : ∀ {ss : List (List Nat × List Nat)} {p : List Nat × List Nat}, Chain ss → (∀ c ∈ p.1, c ∈ zBlk) → Tk p.2 → (∀ q, ss.getLast? = some q → p.1 = [] → Dif q.2 p.2) → Chain (ss ++ [p])
  | [], p, _, h1, h2, _ => ⟨h1, h2, True.intro, True.intro⟩
  | [a], p, h, h1, h2, h3 => ⟨h.1, h.2.1, h3 a rfl, h1, h2, True.intro, True.intro⟩
  | a :: b :: ss, p, h, h1, h2, h3 => ⟨h.1, h.2.1, h.2.2.1, chain_snoc (ss := b :: ss) h.2.2.2 h1 h2 fun q hq => h3 q (by rw [List.getLast?_cons_cons]; exact hq)⟩
theorem flat_head {ss : List (List Nat × List Nat)} {e : List Nat} {l : List Nat} (hl : Tk l) (he : ∀ c ∈ e, c ∈ zBlk) (h : match ss with | [] => True | q :: _ => ((∀ c ∈ q.1, c ∈ zBlk) ∧ Tk q.2 ∧ (q.1 = [] → Dif l q.2))) : Apart l (flat ss e) := by
  have blk : ∀ (b rest : List Nat), b ≠ [] → (∀ c ∈ b, c ∈ zBlk) → Apart l (b ++ rest) := fun b rest hb hh => by
    obtain ⟨d, b', rfl⟩ := List.exists_cons_of_ne_nil hb
    intro c hc Z hZ hx hz
    have : d = c := by simpa using hc
    subst this
    have hbk := hh d List.mem_cons_self
    rcases hZ with rfl | rfl
    · exact blk_let hbk hz
    · exact blk_fig hbk hz
  cases ss with
  | nil =>
    unfold flat
    by_cases h0 : e = []
    · subst h0; intro c hc; simp at hc
    · have := blk e [] h0 he
      rwa [List.append_nil] at this
  | cons q ss =>
    obtain ⟨h1, h2, h3⟩ := h
    unfold flat
    rw [List.append_assoc]
    by_cases h0 : q.1 = []
    · rw [h0, List.nil_append]
      exact (h3 h0).apart hl h2
    · exact blk _ _ h0 h1
theorem chain_well {e : List Nat} (he : ∀ c ∈ e, c ∈ zBlk) : ∀ {ss : List (List Nat × List Nat)}, Chain ss → Well ss e
  | [], _ => he
  | p :: ss, h => by
    refine ⟨h.1, h.2.1, flat_head h.2.1 he ?_, chain_well he h.2.2.2⟩
    cases ss with
    | nil => exact True.intro
    | cons q ss => exact ⟨h.2.2.2.1, h.2.2.2.2.1, h.2.2.1⟩
theorem flat_app : ∀ (ss : List (List Nat × List Nat)) (p : List Nat × List Nat) (e : List Nat), flat (ss ++ [p]) e = flat ss (p.1 ++ p.2 ++ e)
  | [], p, e => rfl
  | q :: ss, p, e => by rw [List.cons_append]; unfold flat; rw [flat_app ss p e]
theorem flat_e : ∀ (ss : List (List Nat × List Nat)) (e : List Nat), flat ss e = flat ss [] ++ e
  | [], e => rfl
  | q :: ss, e => by unfold flat; rw [flat_e ss e]; simp
section
variable {T0 : List (Addr × Str)} {m : Int}
noncomputable def spB1 : TSf := dSet 5 (dOrV (dOp gEq (dVar 3) (dC (.str ""))) (dNotV (dOrV (dAndV (dBM0 isStr (gStr0 fun a => .bl (Txt.isalpha a)) (dVar 3)) (dBM0 isStr (gStr0 fun a => .bl (Txt.isalpha a)) (dVar 4))) (dAndV (dBM0 isStr (gStr0 fun a => .bl (Txt.isdigit a)) (dVar 3)) (dBM0 isStr (gStr0 fun a => .bl (Txt.isdigit a)) (dVar 4))))))
noncomputable def spB2 : TSf := dSet 2 (dOp gAdd (dOp gAdd (dVar 2) (dIf (dTest (dVar 5)) (dCall (fn__law_pick) (dCons (dVar 0) (dCons (dLst (dCons (dC (.str "")) (dCons (dC (.str " ")) (dCons (dC (.str "\n")) (dCons (dC (.str "  ")) dNil))))) dNil))) (dCall (fn__law_pick) (dCons (dVar 0) (dCons (dLst (dCons (dC (.str " ")) (dCons (dC (.str "\n ")) dNil))) dNil))))) (dVar 4))
noncomputable def spB3 : TSf := dSet 3 (dVar 4)
noncomputable def spBody : TSf := dSeq spB1 (dSeq spB2 spB3)
noncomputable def sp0 : TSf := dPar 2 3 (dCall (fn__law_pick) (dCons (dVar 0) (dCons (dLst (dCons (dC (.str "")) (dCons (dC (.str " ")) (dCons (dC (.str "\n")) dNil)))) dNil))) (dC (.str ""))
noncomputable def spR : TSf := dRet (dOp gAdd (dVar 2) (dCall (fn__law_pick) (dCons (dVar 0) (dCons (dLst (dCons (dC (.str "")) (dCons (dC (.str "\n")) (dCons (dC (.str " ")) dNil)))) dNil))))
theorem spread_t : t__law_spread = dSeq sp0 (dSeq (dFor (iSq (dVar 1)) (gNm 4) spBody) spR) := rfl
def spS (w : W) (T : List D) (f l : Str) (a b : Option D) : S := ⟨w, [.dr, .sh (.lst T), .sh (.str f), .sh (.str l), So a, So b]⟩
theorem spB1_eq {w : W} {T : List D} {f l x : Str} {b : Option D} : spB1 (spS w T f l (some (.str x)) b) = some (.nx (spS w T f l (some (.str x)) (some (.bl (decide (l = "") || !(Txt.isalpha l && Txt.isalpha x || Txt.isdigit l && Txt.isdigit x)))))) := by
  by_cases h : l = ""
  · subst h; simp [spB1, spS, So]
  · cases h1 : Txt.isalpha l <;> cases h2 : Txt.isalpha x <;> cases h3 : Txt.isdigit l <;> cases h4 : Txt.isdigit x <;> simp [spB1, spS, So, h, h1, h2, h3, h4]
theorem blank_of {x : D} {l : List Str} (h : x ∈ l.map D.str) (hl : ∀ z ∈ l, (∀ c ∈ z.cps.toList, c ∈ zBlk) ∧ z.cps.size ≤ 2) : ∃ t, x = strL t ∧ (∀ c ∈ t, c ∈ zBlk) ∧ t.length ≤ 2 := by
  obtain ⟨z, hz, rfl⟩ := List.mem_map.mp h
  obtain ⟨a, b⟩ := hl z hz
  exact ⟨z.cps.toList, rfl, a, by simpa using b⟩
theorem blank_of2 {x : D} {l : List Str} (h : x ∈ l.map D.str) (hl : ∀ z ∈ l, (∀ c ∈ z.cps.toList, c ∈ zBlk) ∧ z.cps.size ≤ 2 ∧ z.cps.toList ≠ []) : ∃ t, x = strL t ∧ (∀ c ∈ t, c ∈ zBlk) ∧ t.length ≤ 2 ∧ t ≠ [] := by
  obtain ⟨z, hz, rfl⟩ := List.mem_map.mp h
  obtain ⟨a, b, c⟩ := hl z hz
  exact ⟨z.cps.toList, rfl, a, by simpa using b, c⟩
theorem mkL (a b : List Nat) : (⟨a.toArray⟩ : Str) ++ (⟨b.toArray⟩ : Str) = ⟨(a ++ b).toArray⟩ := by
  rw [← TL.mk_tl ((⟨a.toArray⟩ : Str) ++ (⟨b.toArray⟩ : Str)), TL.tl_append]
theorem lenL (a : List Nat) : (⟨a.toArray⟩ : Str).length = a.length := by show a.toArray.size = _; simp
theorem spB2_eq (hm : m + 10 < 281474976710656) {w : W} (g : Good T0 m w) {T : List D} {f x : List Nat} {l : Str} (hf : f.length < 10000) (hx : x.length ≤ 70) (k : Bool) : ∃ (sp : List Nat) (w' : W), spB2 (spS w T ⟨f.toArray⟩ l (some (strL x)) (some (.bl k))) = some (.nx (spS w' T ⟨(f ++ sp ++ x).toArray⟩ l (some (strL x)) (some (.bl k)))) ∧ Good T0 (m + 1) w' ∧ (∀ c ∈ sp, c ∈ zBlk) ∧ sp.length ≤ 2 ∧ (k = false → sp ≠ []) := by
  cases k with
  | true =>
    obtain ⟨y, w1, e1, g1, hy⟩ := pick_cr (by omega) g (l := [.str "", .str " ", .str "\n", .str "  "]) (by simp) (by simp)
    obtain ⟨sp, rfl, h1, h2⟩ := blank_of (l := ["", " ", "\n", "  "]) hy (by decide)
    have hl1 : f.length + sp.length ≤ 16777216 := by omega
    have hl2 : f.length + sp.length + x.length ≤ 16777216 := by omega
    refine ⟨sp, w1, ?_, g1, h1, h2, by simp⟩
    simp [-dCall, dCall_cr, spB2, spS, So, e1, strL, mkL, lenL, hl1, hl2]
    done
  | false =>
    obtain ⟨y, w1, e1, g1, hy⟩ := pick_cr (by omega) g (l := [.str " ", .str "\n "]) (by simp) (by simp)
    obtain ⟨sp, rfl, h1, h2, h3⟩ := blank_of2 (l := [" ", "\n "]) hy (by decide)
    have hl1 : f.length + sp.length ≤ 16777216 := by omega
    have hl2 : f.length + sp.length + x.length ≤ 16777216 := by omega
    refine ⟨sp, w1, ?_, g1, h1, h2, fun _ => h3⟩
    simp [-dCall, dCall_cr, spB2, spS, So, e1, strL, mkL, lenL, hl1, hl2]
    done
end
end Gk11

end

section -- K11m19
set_option Elab.async false
set_option linter.all false
set_option maxRecDepth 100000
set_option maxHeartbeats 4000000
/-! _law_spread: the loop, the end -/
namespace Gk11
open PySem PySem.Spec L2 DL
section
variable {T0 : List (Addr × Str)} {m : Int}
theorem spB3_eq {w : W} {T : List D} {f l x : Str} {k : Bool} : spB3 (spS w T f l (some (.str x)) (some (.bl k))) = some (.nx (spS w T f x (some (.str x)) (some (.bl k)))) := by
  simp [spB3, spS, So]
/-- the last token, or none -/
def lastS (ss : List (List Nat × List Nat)) : Str := match ss.getLast? with
  | none => ""
  | some q => ⟨q.2.toArray⟩
theorem lastS_snoc (ss : List (List Nat × List Nat)) (p : List Nat × List Nat) : lastS (ss ++ [p]) = ⟨p.2.toArray⟩ := by
  unfold lastS
  rw [List.getLast?_concat]
theorem sp_turn (hm : m + 10 < 281474976710656) {w : W} (g : Good T0 m w) {T : List D} {i : List Nat} {ss : List (List Nat × List Nat)} {x : List Nat} {b : Option D} (hc : Chain ss) (hx : Tk x) (hxl : x.length ≤ 70) (hl : (i ++ flat ss []).length < 9000) :
    ∃ (sp : List Nat) (w' : W) (b' : Option D), spBody (spS w T ⟨(i ++ flat ss []).toArray⟩ (lastS ss) (some (strL x)) b) = some (.nx (spS w' T ⟨(i ++ flat (ss ++ [(sp, x)]) []).toArray⟩ (lastS (ss ++ [(sp, x)])) (some (strL x)) b')) ∧ Good T0 (m + 1) w' ∧ Chain (ss ++ [(sp, x)]) ∧ sp.length ≤ 2 := by
  obtain ⟨k, hk⟩ : ∃ k, k = (decide (lastS ss = "") || !(Txt.isalpha (lastS ss) && Txt.isalpha ⟨x.toArray⟩ || Txt.isdigit (lastS ss) && Txt.isdigit ⟨x.toArray⟩)) := ⟨_, rfl⟩
  obtain ⟨sp, w1, e2, g1, h1, h2, h3⟩ := spB2_eq (by omega) g (T := T) (f := i ++ flat ss []) (x := x) (l := lastS ss) (by omega) hxl k
  refine ⟨sp, w1, some (.bl k), ?_, g1, ?_, h2⟩
  · unfold spBody
    have e1 := spB1_eq (w := w) (T := T) (f := ⟨(i ++ flat ss []).toArray⟩) (l := lastS ss) (x := ⟨x.toArray⟩) (b := b)
    rw [← hk] at e1
    have e1' : spB1 (spS w T ⟨(i ++ flat ss []).toArray⟩ (lastS ss) (some (strL x)) b) = _ := e1
    rw [dSeq_nx e1']
    have e2' : spB2 (spS w T ⟨(i ++ flat ss []).toArray⟩ (lastS ss) (some (.str ⟨x.toArray⟩)) (some (.bl k))) = _ := e2
    rw [dSeq_nx e2', flat_app, lastS_snoc]
    have e3 : i ++ flat ss [] ++ sp ++ x = i ++ flat ss (sp ++ x ++ []) := by rw [flat_e ss (sp ++ x ++ [])]; simp
    rw [e3]
    exact spB3_eq
  · refine chain_snoc hc h1 hx fun q hq h0 => ?_
    have hkt : k = true := by
      cases k with
      | true => rfl
      | false => exact absurd h0 (h3 rfl)
    rw [hkt] at hk
    have hls : lastS ss = ⟨q.2.toArray⟩ := by unfold lastS; rw [hq]
    have hne : ¬ (⟨q.2.toArray⟩ : Str) = "" := fun z => by
      have z2 : q.2 = [] := by
        have := congrArg (fun s : Str => s.cps.toList) z
        have e0 : ("" : Str).cps.toList = [] := by decide
        have this : q.2.toArray.toList = ("" : Str).cps.toList := this
        rw [e0] at this
        simpa using this
      have tq : Tk q.2 := by
        have : ∀ {ss : List (List Nat × List Nat)}, Chain ss → ∀ q ∈ ss, Tk q.2 := by
          intro ss
          induction ss with
          | nil => intro _ q h; cases h
          | cons p ss ih =>
            intro h q hq
            rcases List.mem_cons.mp hq with rfl | hq
            · exact h.2.1
            · exact ih h.2.2.2 q hq
        exact this hc q (List.mem_of_getLast? hq)
      exact tq.ne z2
    rw [hls, decide_eq_false hne, Bool.false_or] at hk
    unfold Dif
    have : ∀ z : Bool, true = !z → z = false := by decide
    exact this _ hk
theorem sp_for {T : List D} {i : List Nat} : ∀ (tks : List (List Nat)) (m : Int) (w : W) (ss : List (List Nat × List Nat)) (a b : Option D), Good T0 m w → m + tks.length + 10 < 281474976710656 → Chain ss → (∀ t ∈ tks, Tk t ∧ t.length ≤ 70) → (i ++ flat ss []).length + 72 * tks.length < 9000 →
    ∃ (ss' : List (List Nat × List Nat)) (w' : W) (a' b' : Option D), forS (gNm 4) spBody (tks.map strL) (spS w T ⟨(i ++ flat ss []).toArray⟩ (lastS ss) a b) = some (.nx (spS w' T ⟨(i ++ flat (ss ++ ss') []).toArray⟩ (lastS (ss ++ ss')) a' b')) ∧ Good T0 (m + tks.length) w' ∧ Chain (ss ++ ss') ∧ ss'.map (·.2) = tks ∧ (i ++ flat (ss ++ ss') []).length ≤ (i ++ flat ss []).length + 72 * tks.length
  | [], m, w, ss, a, b, g, _, hc, _, _ => ⟨[], w, a, b, by rw [List.append_nil]; rfl, by simpa using g, by simpa using hc, rfl, by simp⟩
  | x :: tks, m, w, ss, a, b, g, hm, hc, ht, hl => by
    rw [List.length_cons] at hm hl
    obtain ⟨h1, h2⟩ := ht x List.mem_cons_self
    obtain ⟨sp, w1, b1, e1, g1, c1, h3⟩ := sp_turn (T := T) (b := b) (by omega) g (i := i) hc h1 h2 (by omega)
    have hlen : (i ++ flat (ss ++ [(sp, x)]) []).length ≤ (i ++ flat ss []).length + 72 := by
      rw [flat_app, flat_e ss (sp ++ x ++ [])]
      simp
      omega
    obtain ⟨ss', w2, a2, b2, e2, g2, c2, h4, h5⟩ := sp_for (T := T) (i := i) tks (m + 1) w1 (ss ++ [(sp, x)]) (some (strL x)) b1 g1 (by omega) c1 (fun t h => ht t (List.mem_cons_of_mem _ h)) (by omega)
    rw [List.append_assoc, List.singleton_append] at e2 c2 h5
    refine ⟨(sp, x) :: ss', w2, a2, b2, ?_, g2.mono (by rw [List.length_cons]; omega), c2, by rw [List.map_cons, h4], by rw [List.length_cons]; omega⟩
    rw [List.map_cons]
    exact (forS_nx (by simp [spS, So]) e1).trans e2
theorem spread_eq (hm : m + 100 < 281474976710656) {w : W} (g : Good T0 m w) {tks : List (List Nat)} (hn : tks.length ≤ 13) (ht : ∀ t ∈ tks, Tk t ∧ t.length ≤ 70) :
    ∃ (i : List Nat) (ss : List (List Nat × List Nat)) (e : List Nat) (w' : W), cr (fn__law_spread w [.dr, .sh (.lst (tks.map strL))]) = some (.ret (.sh (strL (i ++ flat ss e))) w') ∧ Good T0 (m + 20) w' ∧ (∀ c ∈ i, c ∈ zBlk) ∧ Well ss e ∧ ss.map (·.2) = tks ∧ (i ++ flat ss e).length ≤ 1000 := by
  obtain ⟨x, w1, e1, g1, hx⟩ := pick_cr (by omega) g (l := [.str "", .str " ", .str "\n"]) (by simp) (by simp)
  obtain ⟨i, rfl, h1, h2⟩ := blank_of (l := ["", " ", "\n"]) hx (by decide)
  obtain ⟨ss, w2, a, b, e2, g2, c2, h3, h4⟩ := sp_for (T := tks.map strL) (i := i) tks (m + 1) w1 [] none none g1 (by omega) True.intro ht (by unfold flat; simp; omega)
  obtain ⟨y, w3, e3, g3, hy⟩ := pick_cr (by omega) g2 (l := [.str "", .str "\n", .str " "]) (by simp) (by simp)
  obtain ⟨e, rfl, h5, h6⟩ := blank_of (l := ["", "\n", " "]) hy (by decide)
  rw [List.nil_append] at e2 c2 h4
  have h0 : (i ++ flat [] []).length = i.length := by unfold flat; simp
  have h4' : i.length + (flat ss []).length ≤ i.length + 72 * tks.length := by rw [h0] at h4; simpa using h4
  refine ⟨i, ss, e, w3, ?_, g3.mono (by omega), h1, chain_well h5 c2, h3, by rw [flat_e ss e]; simp; omega⟩
  unfold fn__law_spread
  rw [cr_runF, spread_t]
  have q0 : sp0 ⟨w, [Sl.dr, .sh (.lst (tks.map strL))] ++ List.replicate (6 - [Sl.dr, .sh (.lst (tks.map strL))].length) .no⟩ = some (.nx (spS w1 (tks.map strL) ⟨(i ++ flat [] []).toArray⟩ (lastS []) none none)) := by
    unfold flat
    simp [-dCall, dCall_cr, sp0, spS, So, e1, strL, lastS]
  have q1 : iSq (dVar 1) (spS w1 (tks.map strL) ⟨(i ++ flat [] []).toArray⟩ (lastS []) none none) = some (.it (tks.map strL) false (spS w1 (tks.map strL) ⟨(i ++ flat [] []).toArray⟩ (lastS []) none none)) := by
    simp [spS, So]
  have hs : (⟨(spS w1 (tks.map strL) ⟨(i ++ flat [] []).toArray⟩ (lastS []) none none).w, settleB false (spS w1 (tks.map strL) ⟨(i ++ flat [] []).toArray⟩ (lastS []) none none).e⟩ : S) = spS w1 (tks.map strL) ⟨(i ++ flat [] []).toArray⟩ (lastS []) none none := by simp [spS, So]
  rw [dSeq_nx q0, dSeq_nx (dFor_eq q1 (by rw [hs]; exact e2))]
  have hl : (i ++ flat ss []).length + e.length ≤ 16777216 := by
    simp; omega
  have hl2 : i.length + (flat ss []).length + e.length ≤ 16777216 := by simpa using hl
  have fe : i ++ flat ss [] ++ e = i ++ flat ss e := by rw [flat_e ss e]; simp
  have q2 : spR (spS w2 (tks.map strL) ⟨(i ++ flat ss []).toArray⟩ (lastS ss) a b) = some (.rt (.sh (strL (i ++ flat ss [] ++ e))) (spS w3 (tks.map strL) ⟨(i ++ flat ss []).toArray⟩ (lastS ss) a b)) := by
    simp [-dCall, dCall_cr, spR, spS, e3, strL, mkL, lenL, hl2]
  rw [q2, crT_sh, fe]
  rfl
end
end Gk11

end

section -- K11m20
set_option Elab.async false
set_option linter.all false
set_option maxRecDepth 100000
set_option maxHeartbeats 4000000
/-! texts: a blank ahead of a token, a bent sign; the scan's tokens are made of the text's signs -/
namespace Gk11
open PySem PySem.Spec L2 DL
theorem flat_nil (e : List Nat) : flat [] e = e := rfl
theorem flat_cons (p : List Nat × List Nat) (ss : List (List Nat × List Nat)) (e : List Nat) : flat (p :: ss) e = p.1 ++ p.2 ++ flat ss e := rfl
theorem places_cons (p : List Nat × List Nat) (ss : List (List Nat × List Nat)) (i : Nat) : places (p :: ss) i = (⟨p.2.toArray⟩, i + p.1.length) :: places ss (i + p.1.length + p.2.length) := rfl
theorem places_app : ∀ (a b : List (List Nat × List Nat)) (i : Nat), places (a ++ b) i = places a i ++ places b (i + (flat a []).length)
  | [], b, i => by rw [flat_nil]; simp [places]
  | p :: a, b, i => by
    rw [List.cons_append, places_cons, places_cons, places_app a b, flat_cons]
    simp [Nat.add_assoc]
theorem places_shift : ∀ (ss : List (List Nat × List Nat)) (i : Nat), places ss (i + 1) = (places ss i).map fun q => (q.1, q.2 + 1)
  | [], i => rfl
  | p :: ss, i => by
    unfold places
    rw [List.map_cons]
    have e1 : i + 1 + p.1.length = i + p.1.length + 1 := by omega
    have e2 : i + p.1.length + 1 + p.2.length = i + p.1.length + p.2.length + 1 := by omega
    rw [e1, e2, places_shift ss]
theorem places_ge : ∀ (ss : List (List Nat × List Nat)) (i : Nat), ∀ q ∈ places ss i, i ≤ q.2
  | [], i, q, h => by cases h
  | p :: ss, i, q, h => by
    unfold places at h
    rcases List.mem_cons.mp h with rfl | h
    · show i ≤ i + p.1.length; omega
    · have := places_ge ss _ q h; omega
theorem well_tk {e : List Nat} : ∀ {ss : List (List Nat × List Nat)}, Well ss e → ∀ p ∈ ss, Tk p.2
  | [], _, p, h => by cases h
  | q :: ss, h, p, hp => by
    rcases List.mem_cons.mp hp with rfl | hp
    · exact h.2.1
    · exact well_tk h.2.2.2 p hp
theorem places_lt : ∀ (ss : List (List Nat × List Nat)) (i : Nat), (∀ p ∈ ss, p.2 ≠ []) → ∀ q ∈ places ss i, q.2 < i + (flat ss []).length
  | [], i, _, q, h => by cases h
  | p :: ss, i, hn, q, h => by
    have h0 := List.length_pos_iff.mpr (hn p List.mem_cons_self)
    unfold places at h
    unfold flat
    rw [List.length_append, List.length_append]
    rcases List.mem_cons.mp h with rfl | h
    · show i + p.1.length < _; omega
    · have := places_lt ss _ (fun x hx => hn x (List.mem_cons_of_mem _ hx)) q h; omega
theorem places_split : ∀ (ss : List (List Nat × List Nat)) (i : Nat), ∀ q ∈ places ss i, ∃ a p b, ss = a ++ p :: b ∧ q.2 = i + (flat a []).length + p.1.length
  | [], i, q, h => by cases h
  | p :: ss, i, q, h => by
    unfold places at h
    rcases List.mem_cons.mp h with rfl | h
    · exact ⟨[], p, ss, rfl, by unfold flat; simp⟩
    · obtain ⟨a, p', b, rfl, e⟩ := places_split ss _ q h
      refine ⟨p :: a, p', b, rfl, ?_⟩
      rw [e, flat_cons]
      simp
      omega
/-- one more blank ahead of a token -/
theorem well_put {e : List Nat} : ∀ {a : List (List Nat × List Nat)} {p : List Nat × List Nat} {b : List (List Nat × List Nat)}, Well (a ++ p :: b) e → Well (a ++ (p.1 ++ [32], p.2) :: b) e
  | [], p, b, h => by
    refine ⟨fun c hc => ?_, h.2.1, h.2.2.1, h.2.2.2⟩
    rcases List.mem_append.mp hc with hc | hc
    · exact h.1 c hc
    · rw [List.mem_singleton.mp hc]; decide
  | q :: a, p, b, h => by
    refine ⟨h.1, h.2.1, ?_, well_put h.2.2.2⟩
    have h3 := h.2.2.1
    intro c hc
    cases a with
    | nil =>
      by_cases h0 : p.1 = []
      · have e1 : flat ([] ++ (p.1 ++ [32], p.2) :: b) e = 32 :: (p.2 ++ flat b e) := by
          rw [List.nil_append, flat_cons, h0]
          simp
        have hc : (flat ([] ++ (p.1 ++ [32], p.2) :: b) e).head? = some c := hc
        rw [e1] at hc
        have : c = 32 := by simpa using hc.symm
        subst this
        intro Z hZ _ hz
        rcases hZ with rfl | rfl <;> (revert hz; decide)
      · obtain ⟨d, p1, e0⟩ := List.exists_cons_of_ne_nil h0
        refine h3 c ?_
        have e1 : flat ([] ++ (p.1 ++ [32], p.2) :: b) e = d :: (p1 ++ [32] ++ p.2 ++ flat b e) := by
          rw [List.nil_append, flat_cons, e0]
          simp
        have e2 : flat ([] ++ p :: b) e = d :: (p1 ++ p.2 ++ flat b e) := by
          rw [List.nil_append, flat_cons, e0]
          simp
        have hc : (flat ([] ++ (p.1 ++ [32], p.2) :: b) e).head? = some c := hc
        rw [e1] at hc
        show (flat ([] ++ p :: b) e).head? = some c
        rw [e2]
        exact hc
    | cons x a =>
      refine h3 c ?_
      have hx := (h.2.2.2).2.1.ne
      have hd : ∃ d r, x.1 ++ x.2 = d :: r := List.exists_cons_of_ne_nil (by simp [hx])
      obtain ⟨d, r, e0⟩ := hd
      have e1 : flat (x :: a ++ (p.1 ++ [32], p.2) :: b) e = d :: (r ++ flat (a ++ (p.1 ++ [32], p.2) :: b) e) := by
        rw [List.cons_append]
        show x.1 ++ x.2 ++ _ = _
        rw [e0]
        rfl
      have e2 : flat (x :: a ++ p :: b) e = d :: (r ++ flat (a ++ p :: b) e) := by
        rw [List.cons_append]
        show x.1 ++ x.2 ++ _ = _
        rw [e0]
        rfl
      have hc : (flat (x :: a ++ (p.1 ++ [32], p.2) :: b) e).head? = some c := hc
      rw [e1] at hc
      show (flat (x :: a ++ p :: b) e).head? = some c
      rw [e2]
      exact hc
theorem flat_split (a : List (List Nat × List Nat)) (p : List Nat × List Nat) (b : List (List Nat × List Nat)) (e : List Nat) : flat (a ++ p :: b) e = flat a [] ++ p.1 ++ (p.2 ++ flat b e) := by
  have h : flat (a ++ p :: b) e = flat a (flat (p :: b) e) := by
    induction a with
    | nil => rfl
    | cons q a ih => rw [List.cons_append]; show q.1 ++ q.2 ++ _ = q.1 ++ q.2 ++ _; rw [ih]
  rw [h, flat_e a]
  show flat a [] ++ (p.1 ++ p.2 ++ flat b e) = _
  simp
/-- a text as spread -/
structure Txt1 (i : List Nat) (ss : List (List Nat × List Nat)) (e : List Nat) : Prop where
  bl : ∀ c ∈ i, c ∈ zBlk
  well : Well ss e
theorem Txt1.sc {i : List Nat} {ss : List (List Nat × List Nat)} {e : List Nat} (h : Txt1 i ss e) : Sc (i ++ flat ss e) 0 (places ss i.length, none) := by
  refine sc_blanks i 0 (flat ss e) (by simp) h.bl ?_
  rw [Nat.zero_add]
  exact sc_flat ss i.length (by simp) h.well
def moveP (at_ : Nat) (q : Str × Nat) : Str × Nat := (q.1, q.2 + if at_ ≤ q.2 then 1 else 0)
theorem Txt1.put {i : List Nat} {ss : List (List Nat × List Nat)} {e : List Nat} (h : Txt1 i ss e) {q : Str × Nat} (hq : q ∈ places ss i.length) : Sc ((i ++ flat ss e).take q.2 ++ [32] ++ (i ++ flat ss e).drop q.2) 0 ((places ss i.length).map (moveP q.2), none) ∧ q.2 ≤ (i ++ flat ss e).length := by
  obtain ⟨a, p, b, rfl, e1⟩ := places_split ss _ q hq
  have h2 : Txt1 i (a ++ (p.1 ++ [32], p.2) :: b) e := ⟨h.bl, well_put h.well⟩
  have hn : ∀ x ∈ a ++ p :: b, x.2 ≠ [] := fun x hx => (well_tk h.well x hx).ne
  have hL : i ++ flat (a ++ p :: b) e = (i ++ flat a [] ++ p.1) ++ (p.2 ++ flat b e) := by rw [flat_split]; simp
  have hlen : (i ++ flat a [] ++ p.1).length = q.2 := by rw [e1]; simp; omega
  refine ⟨?_, by rw [hL, List.length_append, hlen]; omega⟩
  have e2 : (i ++ flat (a ++ p :: b) e).take q.2 ++ [32] ++ (i ++ flat (a ++ p :: b) e).drop q.2 = i ++ flat (a ++ (p.1 ++ [32], p.2) :: b) e := by
    rw [hL, List.take_left' hlen, List.drop_left' hlen, flat_split]
    simp
  have e3 : (places (a ++ p :: b) i.length).map (moveP q.2) = places (a ++ (p.1 ++ [32], p.2) :: b) i.length := by
    rw [places_app, places_app, List.map_append]
    congr 1
    · rw [List.map_congr_left (g := id) fun x hx => ?_, List.map_id]
      have := places_lt a i.length (fun y hy => hn y (List.mem_append_left _ hy)) x hx
      unfold moveP
      rw [if_neg (by omega)]
      rfl
    · have e4 : places ((p.1 ++ [32], p.2) :: b) (i.length + (flat a []).length) = (places (p :: b) (i.length + (flat a []).length)).map fun x => (x.1, x.2 + 1) := by
        rw [places_cons, places_cons, List.map_cons]
        have e5 : (p.1 ++ [32]).length = p.1.length + 1 := by simp
        have e6 : i.length + (flat a []).length + (p.1.length + 1) = i.length + (flat a []).length + p.1.length + 1 := by omega
        have e7 : i.length + (flat a []).length + p.1.length + 1 + p.2.length = i.length + (flat a []).length + p.1.length + p.2.length + 1 := by omega
        rw [e5, e6]
        show _ :: places b _ = _ :: (places b _).map _
        rw [e7, places_shift]
      rw [e4]
      refine List.map_congr_left fun x hx => ?_
      have hge : q.2 ≤ x.2 := by
        unfold places at hx
        rcases List.mem_cons.mp hx with rfl | hx
        · show q.2 ≤ i.length + (flat a []).length + p.1.length; omega
        · have := places_ge b _ x hx; omega
      unfold moveP
      rw [if_pos hge]
  rw [e2, e3]
  exact h2.sc
/-- the signs of such a text -/
theorem tk_ok {l : List Nat} (h : Tk l) : ∀ c ∈ l, okc c := fun c hc => by
  cases h with
  | row hZ _ hl =>
    rcases hZ with rfl | rfl
    · exact .inr (.inl (hl c hc))
    · exact .inr (.inr (.inl (hl c hc)))
  | sgn hs => rw [List.mem_singleton.mp hc]; exact .inr (.inr (.inr hs))
theorem flat_ok {e : List Nat} : ∀ {ss : List (List Nat × List Nat)}, Well ss e → ∀ c ∈ flat ss e, okc c
  | [], h, c, hc => .inl (h c hc)
  | p :: ss, h, c, hc => by
    unfold flat at hc
    rcases List.mem_append.mp hc with hc | hc
    · rcases List.mem_append.mp hc with hc | hc
      · exact .inl (h.1 c hc)
      · exact tk_ok h.2.1 c hc
    · exact flat_ok h.2.2.2 c hc
theorem Txt1.ok {i : List Nat} {ss : List (List Nat × List Nat)} {e : List Nat} (h : Txt1 i ss e) : ∀ c ∈ i ++ flat ss e, okc c := fun c hc => by
  rcases List.mem_append.mp hc with hc | hc
  · exact .inl (h.bl c hc)
  · exact flat_ok h.well c hc
theorem okc_lt {c : Nat} (h : okc c) : c < 0x110000 := by
  have h1 : ∀ c ∈ zBlk, c < 0x110000 := by decide
  have h2 : ∀ c ∈ zLet, c < 0x110000 := by decide
  have h3 : ∀ c ∈ zFig, c < 0x110000 := by decide
  have h4 : ∀ c ∈ zSgn, c < 0x110000 := by decide
  rcases h with h | h | h | h
  · exact h1 c h
  · exact h2 c h
  · exact h3 c h
  · exact h4 c h
/-- a sign put in that is none -/
theorem bent_sc {L R : List Nat} {a x : Nat} (hL : ∀ c ∈ L, okc c) (ha : a ≤ L.length) (hx : ¬ okc x) : ∃ ps, Sc (L.take a ++ [x] ++ R) 0 (ps, some a) := by
  have hlen : (L.take a).length = a := by rw [List.length_take]; omega
  refine sc_bent (L := L.take a ++ [x] ++ R) (a := a) (c := x) ?_ hx a 0 (by omega) (by omega) fun j y _ hj hy => ?_
  · rw [List.append_assoc, List.getElem?_append_right (by omega), hlen]; simp
  · rw [List.append_assoc, List.getElem?_append_left (by omega)] at hy
    exact hL y (List.mem_of_mem_take (List.mem_of_getElem? hy))
/-- the told tokens are parts of the text -/
theorem scanP_mem (L : List Nat) : ∀ (k i : Nat), ∀ q ∈ (scanP L k i).1, (∀ c ∈ q.1.cps.toList, c ∈ L) ∧ q.1.cps.size ≤ L.length ∧ q.2 < L.length := by
  have hs : ∀ i j, (∀ c ∈ (sub L i j).cps.toList, c ∈ L) ∧ (sub L i j).cps.size ≤ L.length := fun i j => by
    unfold sub
    refine ⟨fun c hc => List.mem_of_mem_drop (List.mem_of_mem_take hc), ?_⟩
    show ((L.drop i).take (j - i)).toArray.size ≤ _
    simp
    omega
  intro k
  induction k with
  | zero => intro i q h; cases h
  | succ k ih =>
    intro i q h
    unfold scanP at h
    cases hg : L[i]? with
    | none => rw [hg] at h; cases h
    | some c =>
      obtain ⟨hi, -⟩ := List.getElem?_eq_some_iff.mp hg
      rw [hg] at h
      simp only at h
      by_cases h1 : c ∈ zBlk
      · rw [if_pos h1] at h; exact ih _ q h
      · rw [if_neg h1] at h
        by_cases h2 : c ∈ zLet
        · rw [if_pos h2] at h
          rcases List.mem_cons.mp h with e | h
          · rw [e]; exact ⟨(hs _ _).1, (hs _ _).2, hi⟩
          · exact ih _ q h
        · rw [if_neg h2] at h
          by_cases h3 : c ∈ zFig
          · rw [if_pos h3] at h
            rcases List.mem_cons.mp h with e | h
            · rw [e]; exact ⟨(hs _ _).1, (hs _ _).2, hi⟩
            · exact ih _ q h
          · rw [if_neg h3] at h
            by_cases h4 : c ∈ zSgn
            · rw [if_pos h4] at h
              rcases List.mem_cons.mp h with e | h
              · rw [e]; exact ⟨(hs _ _).1, (hs _ _).2, hi⟩
              · exact ih _ q h
            · rw [if_neg h4] at h; cases h
theorem Sc.mem {L : List Nat} {ps : List (Str × Nat)} {r : Option Nat} (h : Sc L 0 (ps, r)) : ∀ q ∈ ps, (∀ c ∈ q.1.cps.toList, c ∈ L) ∧ q.1.cps.size ≤ L.length ∧ q.2 < L.length := fun q hq => scanP_mem L (L.length + 1) 0 q (by rw [h.at]; exact hq)
theorem Sc.len {L : List Nat} {ps : List (Str × Nat)} {r : Option Nat} (h : Sc L 0 (ps, r)) : ps.length ≤ L.length := by
  have := scanP_len L (L.length + 1) 0
  rw [h.at] at this
  simpa using this
end Gk11

end

section -- K11m21
set_option Elab.async false
set_option linter.all false
set_option maxRecDepth 100000
set_option maxHeartbeats 4000000
/-! what the law calls, as equations -/
namespace Gk11
open PySem PySem.Spec L2 DL
section
variable {K : PySem.W.Frag} {w : W} {L : List Nat} {ps : List (Str × Nat)}
def S1 (L : List Nat) : Str := ⟨L.toArray⟩
theorem S1_toList (L : List Nat) : (S1 L).cps.toList = L := by simp [S1]
theorem S1_size (L : List Nat) : (S1 L).cps.size = L.length := by simp [S1]
theorem S1_length (L : List Nat) : (S1 L).length = L.length := S1_size L
theorem S1_app (a b : List Nat) : S1 a ++ S1 b = S1 (a ++ b) := mkL a b
theorem strOk_ps (h : Sc L 0 (ps, r)) (hL : ∀ c ∈ L, c < 0x110000) : ∀ q ∈ ps, PyData.strOk q.1 = true := fun q hq => by
  obtain ⟨h1, -⟩ := h.mem q hq
  have := strOk_of (l := q.1.cps.toList) fun c hc => hL c (h1 c hc)
  simpa using this
theorem tokens_cr (hl : L.length ≤ 100000) (h : Sc L 0 (ps, none)) (hL : ∀ c ∈ L, c < 0x110000) : cr (fn_tokens_of K w [.sh (.str (S1 L))]) = some (.ret (.sh (.tup (toks ps))) w) := by
  obtain ⟨s', e, hw⟩ := tokens_of_ok (K := K) (w := w) (t := S1 L) (by rw [S1_size]; exact hl) (ps := ps) (by rw [S1_toList, S1_size]; exact h.at) (strOk_ps h hL)
  rw [e, cr_sh, hw]
theorem tokens_bad (hl : L.length ≤ 100000) {b : Nat} (h : Sc L 0 (ps, some b)) (hL : ∀ c ∈ L, c < 0x110000) : fn_tokens_of K w [.sh (.str (S1 L))] = some (.exc ⟨He.ga K "BadText", some ("at", .int b)⟩ w) :=
  tokens_of_bad (K := K) (w := w) (t := S1 L) (by rw [S1_size]; exact hl) (ps := ps) (by rw [S1_toList, S1_size]; exact h.at) (strOk_ps h hL)
theorem scanned_cr (hl : L.length < 16777200) {r : Option Nat} (h : Sc L 0 (ps, r)) : cr (fn__law_scanned w [.sh (.str (S1 L))]) = some (.ret (.own (.lst (toks ps ++ [endTok L.length r]))) w) := by
  have e := scanned_eq (w := w) (t := S1 L) (by rw [S1_size]; exact hl)
  rw [S1_toList, S1_size, h.at] at e
  exact e
theorem same_cr {d : D} {n k : Nat} (h : RS d n k) (hn : n ≤ 16777216) (hk : k ≤ 64) : cr (fn__law_same w [.sh d, .sh d]) = some (.ret (.sh (.bl true)) w) := by
  obtain ⟨x, hx⟩ := h.repr hn hk
  obtain ⟨s', e, hw⟩ := same_eq (w := w) hx
  rw [e, cr_sh, hw]
theorem repr_int {i : Nat} (h : i < 1000000) : ∃ x, reprD (.int i) = some x := (rs_int (i := (i : Int)) (j := 6) (by decide) (by decide) (by simpa using h)).repr (by decide) (by decide)
theorem bad_cr (k : KF K) {F : W → Option Fl} {a : Nat} (ha : a < 1000000) (hF : F w = some (.exc ⟨He.ga K "BadText", some ("at", .int a)⟩ w)) : cr (FT__law_is_bad_at K F w [.sh (.int a)]) = some (.ret (.sh (.bl true)) w) := by
  obtain ⟨x, hx⟩ := repr_int ha
  obtain ⟨s', e, hw⟩ := is_bad_at_yes k hF hx
  rw [e, cr_sh, hw]
theorem many_cr (k : KF K) {F : W → Option Fl} {a : Nat} (ha : a < 1000000) (hF : F w = some (.exc ⟨He.ga K "TooMany", some ("most", .int a)⟩ w)) : cr (FT__law_is_too_many K F w [.sh (.int a)]) = some (.ret (.sh (.bl true)) w) := by
  obtain ⟨x, hx⟩ := repr_int ha
  obtain ⟨s', e, hw⟩ := is_too_many_yes k hF hx
  rw [e, cr_sh, hw]
/-- told tokens as data -/
theorem rs_tok {x : Str} {i n : Nat} (h : PyData.strOk x = true) (hx : x.cps.size ≤ n) (hi : i < 1000000) : RS (tok x i) (10 * n + 16) 1 := by
  have h1 := rs_str h
  have h2 := rs_int (i := (i : Int)) (j := 6) (by decide) (by decide) (by simpa using hi)
  exact (rs_tup (rsa_cons h1 (rsa_cons h2 rsa_nil))).mono (by omega) (by omega)
theorem rsa_toks {n : Nat} (h1 : ∀ q ∈ ps, PyData.strOk q.1 = true) (h2 : ∀ q ∈ ps, q.1.cps.size ≤ n) (h3 : ∀ q ∈ ps, q.2 < 1000000) : RSA (toks ps) (ps.length * (10 * n + 18)) 1 := by
  have := rsa_all (l := toks ps) (n := 10 * n + 16) (k := 1) fun d hd => by
    obtain ⟨q, hq, rfl⟩ := List.mem_map.mp hd
    exact rs_tok (h1 q hq) (h2 q hq) (h3 q hq)
  refine this.mono ?_ (Nat.le_refl _)
  unfold toks
  rw [List.length_map]
  exact Nat.mul_le_mul_left _ (by omega)
theorem rs_toks (h : Sc L 0 (ps, r)) (hL : ∀ c ∈ L, c < 0x110000) (hl : L.length ≤ 1100) : RS (.tup (toks ps)) 13000000 2 := by
  have := rsa_toks (n := 1100) (strOk_ps h hL) (fun q hq => by have := (h.mem q hq).2.1; omega) (fun q hq => by have := (h.mem q hq).2.2; omega)
  have hp := h.len
  have h1 : ps.length * (10 * 1100 + 18) ≤ 1100 * (10 * 1100 + 18) := Nat.mul_le_mul_right _ (by omega)
  exact (rs_tup this).mono (by omega) (by omega)
/-- all but the last -/
theorem cut_init {α : Type} (xs : List α) (y : α) : cutL (xs ++ [y]) none (some (-1)) = xs := by
  unfold cutL
  have e1 : (xs ++ [y]).length = xs.length + 1 := by simp
  have e2 : HT.sIx (xs.length + 1) (xs.length + 1) (some (-1)) = xs.length := by
    unfold HT.sIx
    simp
    omega
  have e3 : HT.sIx (xs.length + 1) 0 none = 0 := rfl
  rw [e1, e2, e3]
  simp
theorem cutS_hi {a : Nat} (h : a ≤ L.length) : cutS (S1 L) none (some (a : Int)) = S1 (L.take a) := by
  unfold cutS
  rw [S1_toList, S1_length, sIx_nat]
  have e3 : HT.sIx L.length 0 none = 0 := rfl
  rw [e3, Nat.min_eq_left h]
  rfl
theorem cutS_lo {a : Nat} (h : a ≤ L.length) : cutS (S1 L) (some (a : Int)) none = S1 (L.drop a) := by
  unfold cutS
  rw [S1_toList, S1_length, sIx_nat]
  have e3 : HT.sIx L.length L.length none = L.length := rfl
  rw [e3, Nat.min_eq_left h]
  unfold S1
  rw [List.take_of_length_le (by rw [List.length_drop]; omega)]
/-- blanks in a row -/
theorem mul_blank (n : Nat) (h : 1 < n) : Txt.mul " " (n : Int) = S1 (List.replicate n 32) := by
  unfold Txt.mul
  have h1 : ¬ ((n : Int) < 1) := by omega
  have h2 : ((n : Int) == 1 || ((" " : Str).length == 0)) = false := by
    have : ((n : Int) == 1) = false := by
      rw [beq_eq_false_iff_ne]; omega
    rw [this]; rfl
  rw [if_neg h1, h2, if_neg (by decide)]
  unfold S1
  congr 1
  have e : (n : Int).toNat = n := by omega
  rw [e]
  have e2 : (" " : Str).cps = #[32] := by decide
  rw [e2]
  have key : ∀ (n : Nat) (a : List Nat), List.foldl (fun x1 x2 => x1 ++ x2) a.toArray (List.replicate n #[32]) = (a ++ List.replicate n 32).toArray := by
    intro n
    induction n with
    | zero => intro a; simp
    | succ n ih =>
      intro a
      rw [List.replicate_succ, List.foldl_cons]
      have : a.toArray ++ #[32] = (a ++ [32]).toArray := by simp
      rw [this, ih, List.replicate_succ]
      simp
  exact key n []
end
end Gk11

end

section -- K11m22
set_option Elab.async false
set_option linter.all false
set_option maxRecDepth 100000
set_option maxHeartbeats 4000000
/-! the law's turn, row by row -/
namespace Gk11
open PySem PySem.Spec L2 DL
def LS (w : W) (ns : List Int) (x2 x3 x4 x5 x6 x7 x8 x10 : Option D) : S := ⟨w, [.sh (.lst (ns.map .int)), .dr, So x2, So x3, So x4, So x5, So x6, So x7, So x8, .no, So x10, .no, .no, .no, .no]⟩
section
variable {K : PySem.W.Frag} {T0 : List (Addr × Str)} {m : Int} {w : W} {ns : List Int} {x2 x3 x4 x5 x6 x7 x8 x10 : Option D} {L : List Nat} {ps : List (Str × Nat)}
theorem LS_st : Stab (LS w ns x2 x3 x4 x5 x6 x7 x8 x10).e := .sh (.dr (.so (.so (.so (.so (.so (.so (.so (.no (.so (.no (.no (.no (.no .nil))))))))))))))
noncomputable def lB1 : TSf := dSet 3 (dCall (fn__law_drawn_tokens) (dCons (dVar 1) dNil))
noncomputable def lB2 : TSf := dSet 4 (dCall (fn__law_spread) (dCons (dVar 1) (dCons (dVar 3) dNil)))
noncomputable def lB3 : TSf := dSet 5 (dCB gTuple (dCons (dCutH (dCall (fn__law_scanned) (dCons (dVar 4) dNil)) (dNeg (dC (.int 1)))) dNil))
noncomputable def lB4 (K : PySem.W.Frag) : TSf := dIfS (dOr (dNot (dTest (dCall (fn__law_same) (dCons (dCall (fn_tokens_of K) (dCons (dVar 4) dNil)) (dCons (dVar 5) dNil))))) (dTest (dOp gNe (dLc (iSq (dVar 5)) (gTpl [(gNm 12), (gNm 6)]) dYes (dVar 12) [12, 6]) (dVar 3)))) (dRet (dC (.bl false))) dNext
noncomputable def lB5 : TSf := dSet 7 (dBM isStr gJoin (dC (.str " ")) (dCons (dVar 3) dNil))
noncomputable def lB6 (K : PySem.W.Frag) : TSf := dIfS (dNot (dTest (dCall (fn__law_same) (dCons (dCall (fn_tokens_of K) (dCons (dVar 7) dNil)) (dCons (dCB gTuple (dCons (dCutH (dCall (fn__law_scanned) (dCons (dVar 7) dNil)) (dNeg (dC (.int 1)))) dNil)) dNil))))) (dRet (dC (.bl false))) dNext
noncomputable def lB7a : TSf := dSet 6 (dOp gIx (dCall (fn__law_pick) (dCons (dVar 1) (dCons (dVar 5) dNil))) (dC (.int 1)))
noncomputable def lB7b : TSf := dSet 8 (dCB gTuple (dCons (dLc (iSq (dVar 5)) (gTpl [(gNm 13), (gNm 14)]) dYes (dTup (dCons (dVar 13) (dCons (dOp gAdd (dVar 14) (dIf (dTest (dOp gGe (dVar 14) (dVar 6))) (dC (.int 1)) (dC (.int 0)))) dNil))) [13, 14]) dNil))
noncomputable def lB7c (K : PySem.W.Frag) : TSf := dIfS (dNot (dTest (dCall (fn__law_same) (dCons (dCall (fn_tokens_of K) (dCons (dOp gAdd (dOp gAdd (dCutH (dVar 4) (dVar 6)) (dC (.str " "))) (dCutL (dVar 4) (dVar 6))) dNil)) (dCons (dVar 8) dNil))))) (dRet (dC (.bl false))) dNext
noncomputable def lB7 (K : PySem.W.Frag) : TSf := dIfS (dTest (dOp gNe (dVar 5) (dTup dNil))) (dSeq lB7a (dSeq lB7b (lB7c K))) dNext
noncomputable def lB8 : TSf := dSet 6 (dCall (fn__law_take) (dCons (dVar 1) (dCons (dOp gAdd (dCB gLen (dCons (dVar 4) dNil)) (dC (.int 1))) dNil)))
noncomputable def lX1 : TEf := dCall (fn__law_pick) (dCons (dVar 1) (dCons (dLst (dCons (dC (.str "A")) (dCons (dC (.str "Z")) (dCons (dC (.str "?")) (dCons (dC (.str "_")) (dCons (dC (.str ".")) (dCons (dC (.str "+")) (dCons (dC (.str "(")) (dCons (dC (.str "*")) (dCons (dC (.str "=")) (dCons (dC (.str "#")) (dCons (dC (.str "|")) dNil)))))))))))) dNil))
noncomputable def lX2 : TEf := dCall (fn__law_pick) (dCons (dVar 1) (dCons (dLst (dCons (dC (.str "")) (dCons (dC (.str "?")) (dCons (dC (.str " A")) dNil)))) dNil))
noncomputable def lB9 : TSf := dSet 10 (dOp gAdd (dOp gAdd (dOp gAdd (dCutH (dVar 4) (dVar 6)) lX1) (dCutL (dVar 4) (dVar 6))) lX2)
noncomputable def lB10 (K : PySem.W.Frag) (T0 : List (Addr × Str)) : TSf := dIfS (dNot (dTest (dCallLam T0 15 [10] (dCall (fn_tokens_of K) (dCons (dVar 10) dNil)) (FT__law_is_bad_at K) (dCons (dVar 6) dNil)))) (dRet (dC (.bl false))) dNext
noncomputable def lBody (K : PySem.W.Frag) (T0 : List (Addr × Str)) : TSf := dSeq lB1 (dSeq lB2 (dSeq lB3 (dSeq (lB4 K) (dSeq lB5 (dSeq (lB6 K) (dSeq (lB7 K) (dSeq lB8 (dSeq lB9 (lB10 K T0)))))))))
noncomputable def lLoop2 (K : PySem.W.Frag) (T0 : List (Addr × Str)) : TSf := dFor (iSq (dLst (dCons (dC .non) (dCons (dC (.int 5)) (dCons (dTup (dCons (dC (.str "a")) dNil)) (dCons (dLst (dCons (dC (.str "a")) dNil)) (dCons (dC (.bl true)) dNil))))))) (gNm 9) (dIfS (dNot (dTest (dCallLam T0 15 [9] (dCall (fn_tokens_of K) (dCons (dVar 9) dNil)) (FT__law_is_bad_at K) (dCons (dC (.int 0)) dNil)))) (dRet (dC (.bl false))) dNext)
noncomputable def lLong : TSf := dSet 11 (dOp gAdd (dOp gMul (dC (.str " ")) (dOp gAdd (dC (.int 99997)) (dCall (fn__law_take) (dCons (dVar 1) (dCons (dC (.int 2)) dNil))))) (dC (.str "abc")))
noncomputable def lEnd (K : PySem.W.Frag) (T0 : List (Addr × Str)) : TSf := dRet (dIf (dTest (dOp gEq (dCB gLen (dCons (dVar 11) dNil)) (dC (.int 100000)))) (dCall (fn__law_same) (dCons (dCall (fn_tokens_of K) (dCons (dVar 11) dNil)) (dCons (dTup (dCons (dTup (dCons (dC (.str "abc")) (dCons (dC (.int 99997)) dNil))) dNil)) dNil))) (dCallLam T0 15 [11] (dCall (fn_tokens_of K) (dCons (dVar 11) dNil)) (FT__law_is_too_many K) (dCons (dC (.int 100000)) dNil)))
noncomputable def lIt : TIf := iRg1 (dCons (dOp gAdd (dC (.int 8)) (dCB gMin (dCons (dCB gLen (dCons (dVar 0) dNil)) (dCons (dC (.int 12)) dNil)))) dNil)
theorem law_t : t_law K T0 = dSeq (dFor lIt (gNm 2) (lBody K T0)) (dSeq (lLoop2 K T0) (dSeq lLong (lEnd K T0))) := rfl
theorem lB1_eq (hm : m + 5000 < 281474976710656) (g : Good T0 m w) : ∃ (tks : List (List Nat)) (w' : W), lB1 (LS w ns x2 x3 x4 x5 x6 x7 x8 x10) = some (.nx (LS w' ns x2 (some (.lst (tks.map strL))) x4 x5 x6 x7 x8 x10)) ∧ Good T0 (m + 1400) w' ∧ tks.length ≤ 13 ∧ ∀ t ∈ tks, Tk t ∧ t.length ≤ 70 := by
  obtain ⟨tks, w', e, g2, h1, h2⟩ := drawn_eq (by omega) g
  refine ⟨tks, w', ?_, g2, h1, h2⟩
  have he : (dCall (fn__law_drawn_tokens) (dCons (dVar 1) dNil)) (LS w ns x2 x3 x4 x5 x6 x7 x8 x10) = some (.val (.sh (.lst (tks.map strL))) (LS w' ns x2 x3 x4 x5 x6 x7 x8 x10)) := dCall_eq (s2 := LS w ns x2 x3 x4 x5 x6 x7 x8 x10) (xs := [.dr]) (by simp [LS]) e
  exact dSet_st LS_st he (by simp [LS])
theorem lB2_eq (hm : m + 5000 < 281474976710656) (g : Good T0 m w) {tks : List (List Nat)} (h1 : tks.length ≤ 13) (h2 : ∀ t ∈ tks, Tk t ∧ t.length ≤ 70) : ∃ (i : List Nat) (ss : List (List Nat × List Nat)) (e : List Nat) (w' : W), lB2 (LS w ns x2 (some (.lst (tks.map strL))) x4 x5 x6 x7 x8 x10) = some (.nx (LS w' ns x2 (some (.lst (tks.map strL))) (some (.str (S1 (i ++ flat ss e)))) x5 x6 x7 x8 x10)) ∧ Good T0 (m + 20) w' ∧ Txt1 i ss e ∧ ss.map (·.2) = tks ∧ (i ++ flat ss e).length ≤ 1000 := by
  obtain ⟨i, ss, e, w', e1, g2, h3, h4, h5, h6⟩ := spread_eq (by omega) g h1 h2
  refine ⟨i, ss, e, w', ?_, g2, ⟨h3, h4⟩, h5, h6⟩
  have he : (dCall (fn__law_spread) (dCons (dVar 1) (dCons (dVar 3) dNil))) (LS w ns x2 (some (.lst (tks.map strL))) x4 x5 x6 x7 x8 x10) = some (.val (.sh (.str (S1 (i ++ flat ss e)))) (LS w' ns x2 (some (.lst (tks.map strL))) x4 x5 x6 x7 x8 x10)) := dCall_eq (s2 := LS w ns x2 (some (.lst (tks.map strL))) x4 x5 x6 x7 x8 x10) (xs := [.dr, .sh (.lst (tks.map strL))]) (by simp [LS, So_s]) e1
  exact dSet_st LS_st he (by simp [LS])
/-- tuple(_law_scanned(text)[:-1]) -/
theorem due_eq {s : S} {i : Nat} (hi : dVar i s = some (.val (.sh (.str (S1 L))) s)) (hl : L.length < 16777200) {r : Option Nat} (h : Sc L 0 (ps, r)) : (dCB gTuple (dCons (dCutH (dCall (fn__law_scanned) (dCons (dVar i) dNil)) (dNeg (dC (.int 1)))) dNil)) s = some (.val (.sh (.tup (toks ps))) s) := by
  have e1 : dCall (fn__law_scanned) (dCons (dVar i) dNil) s = some (.val (.own (.lst (toks ps ++ [endTok L.length r]))) s) := dCall_eq (dCons1_eq hi) (scanned_cr hl h)
  have e2 : dCutH (dCall (fn__law_scanned) (dCons (dVar i) dNil)) (dNeg (dC (.int 1))) s = some (.val (.own (.lst (toks ps))) s) := by
    unfold dCutH
    rw [e1]
    simp [cut_init]
  exact dCB_eq (dCons1_eq e2) rfl rfl
theorem lB3_eq (hl : L.length ≤ 1000) {r : Option Nat} (h : Sc L 0 (ps, r)) : lB3 (LS w ns x2 x3 (some (.str (S1 L))) x5 x6 x7 x8 x10) = some (.nx (LS w ns x2 x3 (some (.str (S1 L))) (some (.tup (toks ps))) x6 x7 x8 x10)) := by
  have he := due_eq (s := LS w ns x2 x3 (some (.str (S1 L))) x5 x6 x7 x8 x10) (i := 4) (by simp [LS, So_s]) (by omega) h
  exact dSet_st LS_st he (by simp [LS])
/-- not same(tokens_of(text), due): the answer is False -/
theorem same_test {s : S} {t u : TEf} {d : D} {n k : Nat} (ht : t s = some (.val (.sh d) s)) (hu : u s = some (.val (.sh d) s)) (h : RS d n k) (hn : n ≤ 16777216) (hk : k ≤ 64) : (dNot (dTest (dCall (fn__law_same) (dCons t (dCons u dNil))))) s = some (.tv false s) := by
  have e1 : dCall (fn__law_same) (dCons t (dCons u dNil)) s = some (.val (.sh (.bl true)) s) := dCall_eq (dCons_eq ht (dCons1_eq hu)) (same_cr h hn hk)
  unfold dNot dTest
  rw [e1]
  rfl
theorem tok_eq {s : S} {t : TEf} (ht : t s = some (.val (.sh (.str (S1 L))) s)) (hl : L.length ≤ 100000) (h : Sc L 0 (ps, none)) (hL : ∀ c ∈ L, c < 0x110000) : dCall (fn_tokens_of K) (dCons t dNil) s = some (.val (.sh (.tup (toks ps))) s) := dCall_eq (dCons1_eq ht) (tokens_cr hl h hL)
theorem lc_fst {s : S} (hs : s = LS w ns x2 x3 x4 (some (.tup (toks ps))) x6 x7 x8 x10) (hl : ps.length ≤ 10000) : dLc (iSq (dVar 5)) (gTpl [(gNm 12), (gNm 6)]) dYes (dVar 12) [12, 6] s = some (.val (.own (.lst (ps.map fun q => .str q.1))) (LS w ns x2 x3 x4 (some (.tup (toks ps))) none x7 x8 x10)) := by
  subst hs
  have hi : iSq (dVar 5) (LS w ns x2 x3 x4 (some (.tup (toks ps))) x6 x7 x8 x10) = some (.it (toks ps) (D.tup (toks ps)).imm (LS w ns x2 x3 x4 (some (.tup (toks ps))) x6 x7 x8 x10)) := by simp [LS, So_s]
  refine dLc_eq hi ?_
  have hw : (⟨(LS w ns x2 x3 x4 (some (.tup (toks ps))) x6 x7 x8 x10).w, wipeE (LS w ns x2 x3 x4 (some (.tup (toks ps))) x6 x7 x8 x10).e [12, 6]⟩ : S) = LS w ns x2 x3 x4 (some (.tup (toks ps))) none x7 x8 x10 := by simp [LS, So_n]
  rw [hw]
  have e := lcS_enc (asg := gTpl [(gNm 12), (gNm 6)]) (tt := dYes) (te := dVar 12) (vs := [12, 6]) (fun q : Str × Nat => tok q.1 q.2) (fun _ => true) (fun q => .str q.1) (s0 := LS w ns x2 x3 x4 (some (.tup (toks ps))) none x7 x8 x10) ps [] (fun q _ => ⟨by simp [tok], by simp [LS, tok, So_n]; exact ⟨_, _, ⟨rfl, rfl⟩, rfl, rfl, rfl⟩⟩) (by simp; omega)
  have e2 : ps.filter (fun _ => true) = ps := by simp
  rw [e2, List.nil_append] at e
  exact e
end
end Gk11

end

section -- K11m23
set_option Elab.async false
set_option linter.all false
set_option maxRecDepth 100000
set_option maxHeartbeats 4000000
/-! the law's turn, row by row -/
namespace DL
open PySem PySem.Spec L2
theorem dOr_false {t u : TTf} {s s1 : S} (h : t s = some (.tv false s1)) : dOr t u s = u s1 := by
  unfold dOr
  rw [h]
  rfl
theorem dTest_eq {t : TEf} {s s1 : S} {b : Bool} (h : t s = some (.val (.sh (.bl b)) s1)) : dTest t s = some (.tv b s1) := by
  unfold dTest
  rw [h]
  rfl
end DL
namespace Gk11
open PySem PySem.Spec L2 DL
section
variable {K : PySem.W.Frag} {T0 : List (Addr × Str)} {m : Int} {w : W} {ns : List Int} {x2 x3 x4 x5 x6 x7 x8 x10 : Option D} {L : List Nat} {ps : List (Str × Nat)}
theorem rs_strs {tks : List (List Nat)} (h1 : tks.length ≤ 13) (h2 : ∀ t ∈ tks, Tk t ∧ t.length ≤ 70) : RS (.lst (tks.map strL)) 100000 1 := by
  have := rsa_all (l := tks.map strL) (n := 702) (k := 0) fun d hd => by
    obtain ⟨t, ht, rfl⟩ := List.mem_map.mp hd
    obtain ⟨a, b⟩ := h2 t ht
    exact (rs_str (strOk_of fun c hc => okc_lt (tk_ok a c hc))).mono (by simp; omega) (Nat.le_refl _)
  rw [List.length_map] at this
  exact (rs_lst this).mono (by omega) (Nat.le_refl _)
theorem lB4_eq {tks : List (List Nat)} (h1 : tks.length ≤ 13) (h2 : ∀ t ∈ tks, Tk t ∧ t.length ≤ 70) (hl : L.length ≤ 1000) (h : Sc L 0 (ps, none)) (hL : ∀ c ∈ L, c < 0x110000) (hp : ps.map (fun q => D.str q.1) = tks.map strL) :
    lB4 K (LS w ns x2 (some (.lst (tks.map strL))) (some (.str (S1 L))) (some (.tup (toks ps))) x6 x7 x8 x10) = some (.nx (LS w ns x2 (some (.lst (tks.map strL))) (some (.str (S1 L))) (some (.tup (toks ps))) none x7 x8 x10)) := by
  obtain ⟨s, hs⟩ : ∃ s, s = LS w ns x2 (some (.lst (tks.map strL))) (some (.str (S1 L))) (some (.tup (toks ps))) x6 x7 x8 x10 := ⟨_, rfl⟩
  have e4 : dVar 4 s = some (.val (.sh (.str (S1 L))) s) := by rw [hs]; simp [LS, So_s]
  have e5 : dVar 5 s = some (.val (.sh (.tup (toks ps))) s) := by rw [hs]; simp [LS, So_s]
  have q1 := same_test (tok_eq (K := K) e4 (by omega) h hL) e5 (rs_toks h hL (by omega)) (by omega) (by omega)
  have q2 := lc_fst hs (by have := h.len; omega)
  have q3 : dVar 3 (LS w ns x2 (some (.lst (tks.map strL))) (some (.str (S1 L))) (some (.tup (toks ps))) none x7 x8 x10) = some (.val (.sh (.lst (tks.map strL))) (LS w ns x2 (some (.lst (tks.map strL))) (some (.str (S1 L))) (some (.tup (toks ps))) none x7 x8 x10)) := by simp [LS, So_s]
  have q4 : gNe (.lst (ps.map fun q => .str q.1)) (.lst (tks.map strL)) = some (.sh (.bl false)) := by
    rw [hp]
    simp [eqD_self (rs_strs h1 h2) (by decide) rfl]
  have q5 := dOp_eq q2 q3 rfl rfl q4
  rw [← hs]
  unfold lB4
  refine (dIfS_st_false (s1 := LS w ns x2 (some (.lst (tks.map strL))) (some (.str (S1 L))) (some (.tup (toks ps))) none x7 x8 x10) LS_st ?_).trans rfl
  rw [dOr_false q1]
  exact dTest_eq q5
/-- the tokens joined by blanks -/
def plainL (tks : List (List Nat)) : List Nat := TL.joinL [32] tks
theorem joinL_le (S : List Nat) (n : Nat) : ∀ (l : List (List Nat)), (∀ t ∈ l, t.length ≤ n) → (TL.joinL S l).length ≤ l.length * (n + S.length)
  | [], _ => by simp [TL.joinL]
  | [p], h => by have := h p List.mem_cons_self; simp [TL.joinL]; omega
  | p :: q :: r, h => by
    have h1 := h p List.mem_cons_self
    have h2 := joinL_le S n (q :: r) fun t ht => h t (List.mem_cons_of_mem _ ht)
    rw [TL.joinL, List.length_append, List.length_append, List.length_cons, Nat.add_mul]
    omega
theorem joinL_mem (S : List Nat) (P : Nat → Prop) (hS : ∀ c ∈ S, P c) : ∀ (l : List (List Nat)), (∀ t ∈ l, ∀ c ∈ t, P c) → ∀ c ∈ TL.joinL S l, P c
  | [], _, c, hc => by simp [TL.joinL] at hc
  | [p], h, c, hc => h p List.mem_cons_self c hc
  | p :: q :: r, h, c, hc => by
    rw [TL.joinL] at hc
    rcases List.mem_append.mp hc with hc | hc
    · exact h p List.mem_cons_self c hc
    · rcases List.mem_append.mp hc with hc | hc
      · exact hS c hc
      · exact joinL_mem S P hS (q :: r) (fun t ht => h t (List.mem_cons_of_mem _ ht)) c hc
theorem join_plain {tks : List (List Nat)} (h1 : tks.length ≤ 13) (h2 : ∀ t ∈ tks, Tk t ∧ t.length ≤ 70) : joinD " " (tks.map strL) = some (.sh (.str (S1 (plainL tks)))) := by
  have e1 : tks.map strL = (tks.map S1).map D.str := by rw [List.map_map]; rfl
  unfold joinD
  rw [e1, strsOf_map]
  simp only
  have e2 : ∀ l : List (List Nat), (∀ t ∈ l, t.length ≤ 70) → ((l.map S1).map (·.length)).sum ≤ 70 * l.length := fun l h => by
    induction l with
    | nil => simp
    | cons t l ih =>
      have := ih fun x hx => h x (List.mem_cons_of_mem _ hx)
      have := h t List.mem_cons_self
      rw [List.map_cons, List.map_cons, List.sum_cons, List.length_cons, S1_length]
      omega
  have e3 := e2 tks fun t ht => (h2 t ht).2
  have e4 : (" " : Str).length = 1 := rfl
  rw [if_pos (by rw [List.length_map, e4]; omega)]
  congr 3
  rw [← TL.mk_tl (Txt.join " " _), TL.join_eq, TL.tl_join]
  unfold S1 plainL
  congr 3
  rw [List.map_map]
  have : (TL.tl ∘ fun L : List Nat => (⟨L.toArray⟩ : Str)) = id := by funext l; simp [TL.tl]
  rw [this, List.map_id]
theorem lB5_eq {tks : List (List Nat)} (h1 : tks.length ≤ 13) (h2 : ∀ t ∈ tks, Tk t ∧ t.length ≤ 70) : lB5 (LS w ns x2 (some (.lst (tks.map strL))) x4 x5 x6 x7 x8 x10) = some (.nx (LS w ns x2 (some (.lst (tks.map strL))) x4 x5 x6 (some (.str (S1 (plainL tks)))) x8 x10)) := by
  have e3 : dVar 3 (LS w ns x2 (some (.lst (tks.map strL))) x4 x5 x6 x7 x8 x10) = some (.val (.sh (.lst (tks.map strL))) (LS w ns x2 (some (.lst (tks.map strL))) x4 x5 x6 x7 x8 x10)) := by simp [LS, So_s]
  have e := dBM_eq (ty := isStr) (g := gJoin) (t := dC (.str " ")) (u := dCons (dVar 3) dNil) (s := LS w ns x2 (some (.lst (tks.map strL))) x4 x5 x6 x7 x8 x10) rfl rfl rfl (dCons1_eq e3) rfl (join_plain h1 h2)
  exact dSet_st LS_st e (by simp [LS])
theorem lB6_eq (hl : L.length ≤ 1000) (h : Sc L 0 (ps, none)) (hL : ∀ c ∈ L, c < 0x110000) : lB6 K (LS w ns x2 x3 x4 x5 x6 (some (.str (S1 L))) x8 x10) = some (.nx (LS w ns x2 x3 x4 x5 x6 (some (.str (S1 L))) x8 x10)) := by
  have e7 : dVar 7 (LS w ns x2 x3 x4 x5 x6 (some (.str (S1 L))) x8 x10) = some (.val (.sh (.str (S1 L))) (LS w ns x2 x3 x4 x5 x6 (some (.str (S1 L))) x8 x10)) := by simp [LS, So_s]
  have q1 := same_test (tok_eq (K := K) e7 (by omega) h hL) (due_eq e7 (by omega) h) (rs_toks h hL (by omega)) (by omega) (by omega)
  exact (dIfS_st_false LS_st q1).trans rfl
/-! a blank ahead of a token -/
theorem lB7a_eq (hm : m + 5000 < 281474976710656) (g : Good T0 m w) (hp : ps ≠ []) (hl : ps.length ≤ 1000) : ∃ (q : Str × Nat) (w' : W), lB7a (LS w ns x2 x3 x4 (some (.tup (toks ps))) x6 x7 x8 x10) = some (.nx (LS w' ns x2 x3 x4 (some (.tup (toks ps))) (some (.int q.2)) x7 x8 x10)) ∧ Good T0 (m + 1) w' ∧ q ∈ ps := by
  obtain ⟨x, w', e, g2, hx⟩ := pickT_cr (by omega) g (l := toks ps) (by unfold toks; simpa using hp) (by unfold toks; rw [List.length_map]; omega)
  obtain ⟨q, hq, rfl⟩ := List.mem_map.mp hx
  refine ⟨q, w', ?_, g2, hq⟩
  have e1 : dCall (fn__law_pick) (dCons (dVar 1) (dCons (dVar 5) dNil)) (LS w ns x2 x3 x4 (some (.tup (toks ps))) x6 x7 x8 x10) = some (.val (.sh (tok q.1 q.2)) (LS w' ns x2 x3 x4 (some (.tup (toks ps))) x6 x7 x8 x10)) := dCall_eq (s2 := LS w ns x2 x3 x4 (some (.tup (toks ps))) x6 x7 x8 x10) (xs := [.dr, .sh (.tup (toks ps))]) (by simp [LS, So_s]) e
  have e2 := dOp_eq (g := gIx) e1 (u := dC (.int 1)) rfl rfl rfl (r := .sh (.int q.2)) (by unfold tok; rw [gIx_tup, tok_1]; rfl)
  exact dSet_st LS_st e2 (by simp [LS])
theorem lB7b_eq {a : Nat} (hl : ps.length ≤ 10000) : lB7b (LS w ns x2 x3 x4 (some (.tup (toks ps))) (some (.int a)) x7 x8 x10) = some (.nx (LS w ns x2 x3 x4 (some (.tup (toks ps))) (some (.int a)) x7 (some (.tup (toks (ps.map (moveP a))))) x10)) := by
  have hi : iSq (dVar 5) (LS w ns x2 x3 x4 (some (.tup (toks ps))) (some (.int a)) x7 x8 x10) = some (.it (toks ps) (D.tup (toks ps)).imm (LS w ns x2 x3 x4 (some (.tup (toks ps))) (some (.int a)) x7 x8 x10)) := by simp [LS, So_s]
  have hw : (⟨(LS w ns x2 x3 x4 (some (.tup (toks ps))) (some (.int a)) x7 x8 x10).w, wipeE (LS w ns x2 x3 x4 (some (.tup (toks ps))) (some (.int a)) x7 x8 x10).e [13, 14]⟩ : S) = LS w ns x2 x3 x4 (some (.tup (toks ps))) (some (.int a)) x7 x8 x10 := by simp [LS]
  have e := lcS_enc (asg := gTpl [(gNm 13), (gNm 14)]) (tt := dYes) (te := dTup (dCons (dVar 13) (dCons (dOp gAdd (dVar 14) (dIf (dTest (dOp gGe (dVar 14) (dVar 6))) (dC (.int 1)) (dC (.int 0)))) dNil))) (vs := [13, 14]) (fun q : Str × Nat => tok q.1 q.2) (fun _ => true) (fun q => tok (moveP a q).1 (moveP a q).2) (s0 := LS w ns x2 x3 x4 (some (.tup (toks ps))) (some (.int a)) x7 x8 x10) ps [] (fun q _ => ⟨by simp [tok], by
    by_cases hq : a ≤ q.2
    · simp [LS, tok, So_s, moveP, hq]
      exact ⟨_, _, ⟨rfl, rfl⟩, rfl, rfl, rfl⟩
    · simp [LS, tok, So_s, moveP, hq]
      exact ⟨_, _, ⟨rfl, rfl⟩, rfl, rfl, rfl⟩⟩) (by simp; omega)
  have e2 : ps.filter (fun _ => true) = ps := by simp
  rw [e2, List.nil_append] at e
  have e3 := dLc_eq hi (by rw [hw]; exact e)
  have e4 : ps.map (fun q => tok (moveP a q).1 (moveP a q).2) = toks (ps.map (moveP a)) := by unfold toks; rw [List.map_map]; rfl
  rw [e4] at e3
  have e5 := dCB_eq (g := gTuple) (dCons1_eq e3) rfl (r := .sh (.tup (toks (ps.map (moveP a))))) rfl
  exact dSet_st LS_st e5 (by simp [LS])
theorem lB7c_eq {a : Nat} (ha : a ≤ L.length) (hl : L.length ≤ 1000) (h : Sc (L.take a ++ [32] ++ L.drop a) 0 (ps, none)) (hL : ∀ c ∈ L, c < 0x110000) : lB7c K (LS w ns x2 x3 (some (.str (S1 L))) x5 (some (.int a)) x7 (some (.tup (toks ps))) x10) = some (.nx (LS w ns x2 x3 (some (.str (S1 L))) x5 (some (.int a)) x7 (some (.tup (toks ps))) x10)) := by
  obtain ⟨s, hs⟩ : ∃ s, s = LS w ns x2 x3 (some (.str (S1 L))) x5 (some (.int a)) x7 (some (.tup (toks ps))) x10 := ⟨_, rfl⟩
  have hlen : (L.take a ++ [32] ++ L.drop a).length = L.length + 1 := by simp; omega
  have e8 : dVar 8 s = some (.val (.sh (.tup (toks ps))) s) := by rw [hs]; simp [LS, So_s]
  have c1 := cutS_hi ha
  have c2 := cutS_lo ha
  have l1 : (S1 L).length ≤ 16777216 := by rw [S1_length]; omega
  have e1 : dOp gAdd (dOp gAdd (dCutH (dVar 4) (dVar 6)) (dC (.str " "))) (dCutL (dVar 4) (dVar 6)) s = some (.val (.sh (.str (S1 (L.take a ++ [32] ++ L.drop a)))) s) := by
    have q1 : dCutH (dVar 4) (dVar 6) s = some (.val (.sh (.str (S1 (L.take a)))) s) := by rw [hs]; simp [LS, So_s, c1, l1]
    have q2 : dCutL (dVar 4) (dVar 6) s = some (.val (.sh (.str (S1 (L.drop a)))) s) := by rw [hs]; simp [LS, So_s, c2, l1]
    have q3 := dOp_eq (g := gAdd) q1 (u := dC (.str " ")) rfl rfl rfl (r := .sh (.str (S1 (L.take a ++ [32])))) (by
      rw [gAdd_str, if_pos (by rw [S1_length, List.length_take]; show _ + 1 ≤ _; omega)]
      have : (" " : Str) = S1 [32] := by decide
      rw [this, S1_app])
    refine dOp_eq (g := gAdd) q3 q2 rfl rfl ?_
    rw [gAdd_str, if_pos (by rw [S1_length, S1_length]; simp; omega), S1_app]
  have hL2 : ∀ c ∈ L.take a ++ [32] ++ L.drop a, c < 0x110000 := fun c hc => by
    rcases List.mem_append.mp hc with hc | hc
    · rcases List.mem_append.mp hc with hc | hc
      · exact hL c (List.mem_of_mem_take hc)
      · rw [List.mem_singleton.mp hc]; decide
    · exact hL c (List.mem_of_mem_drop hc)
  have q := same_test (tok_eq (K := K) e1 (by omega) h hL2) e8 (rs_toks h hL2 (by omega)) (by omega) (by omega)
  have e : lB7c K s = some (.nx s) := by
    unfold lB7c
    exact (dIfS_st_false (by rw [hs]; exact LS_st) q).trans rfl
  rw [hs] at e
  exact e
end
end Gk11

end

section -- K11m24
set_option Elab.async false
set_option linter.all false
set_option maxRecDepth 100000
set_option maxHeartbeats 4000000
/-! the law's turn, row by row: the bent sign; the whole turn -/
namespace Gk11
open PySem PySem.Spec L2 DL
section
variable {K : PySem.W.Frag} {T0 : List (Addr × Str)} {m : Int} {w : W} {ns : List Int} {x2 x3 x4 x5 x6 x7 x8 x10 : Option D} {L : List Nat} {ps : List (Str × Nat)}
theorem noB_toks : ∀ ps : List (Str × Nat), noBAll (toks ps) = true
  | [] => by simp [toks, noBAll]
  | q :: ps => by
    have := noB_toks ps
    unfold toks at this ⊢
    rw [List.map_cons, noBAll, this]
    simp [tok, D.noB, noBAll]
theorem ne_unit (h : RS (.tup (toks ps)) 13000000 2) : eqD (.tup (toks ps)) (.tup []) = some ps.isEmpty := by
  obtain ⟨c, e, hc⟩ := eqD_rs h (rs_tup rsa_nil) (by decide) (by decide) (by rw [D.noB]; exact noB_toks ps) (by simp [D.noB, noBAll]) (.inl rfl)
  rw [e]
  congr 1
  cases ps with
  | nil => exact hc.mpr rfl
  | cons q ps =>
    cases c with
    | false => rfl
    | true =>
      have := hc.mp rfl
      injection this with this
      simp [toks] at this
theorem lB7_eq (hm : m + 5000 < 281474976710656) (g : Good T0 m w) {i : List Nat} {ss : List (List Nat × List Nat)} {e : List Nat} (t : Txt1 i ss e) (hl : (i ++ flat ss e).length ≤ 1000) :
    ∃ (w' : W) (x6' x8' : Option D), lB7 K (LS w ns x2 x3 (some (.str (S1 (i ++ flat ss e)))) (some (.tup (toks (places ss i.length)))) x6 x7 x8 x10) = some (.nx (LS w' ns x2 x3 (some (.str (S1 (i ++ flat ss e)))) (some (.tup (toks (places ss i.length)))) x6' x7 x8' x10)) ∧ Good T0 (m + 1) w' := by
  obtain ⟨L, hL⟩ : ∃ L, L = i ++ flat ss e := ⟨_, rfl⟩
  obtain ⟨ps, hps⟩ : ∃ ps, ps = places ss i.length := ⟨_, rfl⟩
  have sc : Sc L 0 (ps, none) := by rw [hL, hps]; exact t.sc
  have ok : ∀ c ∈ L, c < 0x110000 := fun c hc => okc_lt (t.ok c (hL ▸ hc))
  have hn := sc.len
  rw [← hL] at hl
  rw [← hL, ← hps]
  have q5 : dTest (dOp gNe (dVar 5) (dTup dNil)) (LS w ns x2 x3 (some (.str (S1 L))) (some (.tup (toks ps))) x6 x7 x8 x10) = some (.tv (!ps.isEmpty) (LS w ns x2 x3 (some (.str (S1 L))) (some (.tup (toks ps))) x6 x7 x8 x10)) := by
    have e5 : dVar 5 (LS w ns x2 x3 (some (.str (S1 L))) (some (.tup (toks ps))) x6 x7 x8 x10) = some (.val (.sh (.tup (toks ps))) (LS w ns x2 x3 (some (.str (S1 L))) (some (.tup (toks ps))) x6 x7 x8 x10)) := by simp [LS, So_s]
    have e6 : dTup dNil (LS w ns x2 x3 (some (.str (S1 L))) (some (.tup (toks ps))) x6 x7 x8 x10) = some (.val (.sh (.tup [])) (LS w ns x2 x3 (some (.str (S1 L))) (some (.tup (toks ps))) x6 x7 x8 x10)) := by simp [datAll]
    exact dTest_eq (dOp_eq (g := gNe) e5 e6 rfl rfl (by simp [ne_unit (rs_toks sc ok (by omega))]))
  by_cases h0 : ps = []
  · rw [h0] at q5 ⊢
    refine ⟨w, x6, x8, ?_, g.mono (by omega)⟩
    exact (dIfS_st_false LS_st q5).trans rfl
  · have h1 : (!ps.isEmpty) = true := by cases ps with | nil => exact absurd rfl h0 | cons _ _ => rfl
    rw [h1] at q5
    obtain ⟨q, w1, e1, g1, hq⟩ := lB7a_eq (ns := ns) (x2 := x2) (x3 := x3) (x4 := some (.str (S1 L))) (x6 := x6) (x7 := x7) (x8 := x8) (x10 := x10) hm g h0 (by omega)
    have hp := t.put (hps ▸ hq)
    rw [← hL, ← hps] at hp
    refine ⟨w1, some (.int q.2), some (.tup (toks (ps.map (moveP q.2)))), ?_, g1⟩
    refine (dIfS_st_true LS_st q5).trans ?_
    rw [dSeq_nx e1, dSeq_nx (lB7b_eq (by omega))]
    exact lB7c_eq hp.2 hl hp.1 ok
theorem lB8_eq (hm : m + 5000 < 281474976710656) (g : Good T0 m w) (hl : L.length ≤ 1000) : ∃ (a : Nat) (w' : W), lB8 (LS w ns x2 x3 (some (.str (S1 L))) x5 x6 x7 x8 x10) = some (.nx (LS w' ns x2 x3 (some (.str (S1 L))) x5 (some (.int a)) x7 x8 x10)) ∧ Good T0 (m + 1) w' ∧ a ≤ L.length := by
  obtain ⟨x, w', e, g2, h1, h2⟩ := take_cr (by omega) g (high := (L.length : Int) + 1) (by omega) (by omega)
  have hx : x = ((x.toNat : Nat) : Int) := by omega
  refine ⟨x.toNat, w', ?_, g2, by omega⟩
  rw [← hx]
  have l1 : (S1 L).length ≤ 16777216 := by rw [S1_length]; omega
  have l2 := S1_length L
  have l3 : L.length ≤ 16777216 := by omega
  have e1 : (dCons (dVar 1) (dCons (dOp gAdd (dCB gLen (dCons (dVar 4) dNil)) (dC (.int 1))) dNil)) (LS w ns x2 x3 (some (.str (S1 L))) x5 x6 x7 x8 x10) = some (.vals [.dr, .sh (.int ((L.length : Int) + 1))] (LS w ns x2 x3 (some (.str (S1 L))) x5 x6 x7 x8 x10)) := by
    simp [LS, So_s, l2, l3]
  exact dSet_st LS_st (dCall_eq e1 e) (by simp [LS])
theorem sign_of {x : D} {l : List Str} (h : x ∈ l.map D.str) (hl : ∀ z ∈ l, ∃ c, z = S1 [c] ∧ ¬ okc c ∧ c < 0x110000) : ∃ c, x = .str (S1 [c]) ∧ ¬ okc c ∧ c < 0x110000 := by
  obtain ⟨z, hz, rfl⟩ := List.mem_map.mp h
  obtain ⟨c, rfl, h2⟩ := hl z hz
  exact ⟨c, rfl, h2⟩
theorem badc {c : Nat} (h : (decide (c ∈ zBlk) || decide (c ∈ zLet) || decide (c ∈ zFig) || decide (c ∈ zSgn)) = false) : ¬ okc c := by
  intro z
  simp only [Bool.or_eq_false_iff, decide_eq_false_iff_not] at h
  rcases z with z | z | z | z
  · exact h.1.1.1 z
  · exact h.1.1.2 z
  · exact h.1.2 z
  · exact h.2 z
theorem lB9_eq (hm : m + 5000 < 281474976710656) (g : Good T0 m w) (hl : L.length ≤ 1000) {a : Nat} (ha : a ≤ L.length) : ∃ (c : Nat) (R : List Nat) (w' : W), lB9 (LS w ns x2 x3 (some (.str (S1 L))) x5 (some (.int a)) x7 x8 x10) = some (.nx (LS w' ns x2 x3 (some (.str (S1 L))) x5 (some (.int a)) x7 x8 (some (.str (S1 (L.take a ++ [c] ++ (L.drop a ++ R))))))) ∧ Good T0 (m + 2) w' ∧ ¬ okc c ∧ c < 0x110000 ∧ R.length ≤ 2 ∧ ∀ c ∈ R, c < 0x110000 := by
  obtain ⟨x, w1, e1, g1, hx⟩ := pick_cr (by omega) g (l := [.str "A", .str "Z", .str "?", .str "_", .str ".", .str "+", .str "(", .str "*", .str "=", .str "#", .str "|"]) (by simp) (by simp)
  obtain ⟨c, rfl, h1, h2⟩ := sign_of (l := ["A", "Z", "?", "_", ".", "+", "(", "*", "=", "#", "|"]) hx (by
    intro z hz
    simp only [List.mem_cons, List.not_mem_nil, or_false] at hz
    rcases hz with rfl | rfl | rfl | rfl | rfl | rfl | rfl | rfl | rfl | rfl | rfl
    · exact ⟨65, by decide, badc (by decide), by decide⟩
    · exact ⟨90, by decide, badc (by decide), by decide⟩
    · exact ⟨63, by decide, badc (by decide), by decide⟩
    · exact ⟨95, by decide, badc (by decide), by decide⟩
    · exact ⟨46, by decide, badc (by decide), by decide⟩
    · exact ⟨43, by decide, badc (by decide), by decide⟩
    · exact ⟨40, by decide, badc (by decide), by decide⟩
    · exact ⟨42, by decide, badc (by decide), by decide⟩
    · exact ⟨61, by decide, badc (by decide), by decide⟩
    · exact ⟨35, by decide, badc (by decide), by decide⟩
    · exact ⟨124, by decide, badc (by decide), by decide⟩)
  obtain ⟨y, w2, e2, g2, hy⟩ := pick_cr (by omega) g1 (l := [.str "", .str "?", .str " A"]) (by simp) (by simp)
  have hy2 : ∃ R : List Nat, y = .str (S1 R) ∧ R.length ≤ 2 ∧ ∀ c ∈ R, c < 0x110000 := by
    simp only [List.mem_cons, List.not_mem_nil, or_false] at hy
    rcases hy with rfl | rfl | rfl
    · exact ⟨[], by congr 1, by decide, by decide⟩
    · exact ⟨[63], by congr 1, by decide, by decide⟩
    · exact ⟨[32, 65], by congr 1, by decide, by decide⟩
  obtain ⟨R, rfl, h3, h4⟩ := hy2
  refine ⟨c, R, w2, ?_, g2.mono (by omega), h1, h2, h3, h4⟩
  have c1 := cutS_hi ha
  have c2 := cutS_lo ha
  have l1 : (S1 L).length ≤ 16777216 := by rw [S1_length]; omega
  have q1 : ∀ w, dCutH (dVar 4) (dVar 6) (LS w ns x2 x3 (some (.str (S1 L))) x5 (some (.int a)) x7 x8 x10) = some (.val (.sh (.str (S1 (L.take a)))) (LS w ns x2 x3 (some (.str (S1 L))) x5 (some (.int a)) x7 x8 x10)) := fun w => by simp [LS, So_s, c1, l1]
  have q2 : ∀ w, dCutL (dVar 4) (dVar 6) (LS w ns x2 x3 (some (.str (S1 L))) x5 (some (.int a)) x7 x8 x10) = some (.val (.sh (.str (S1 (L.drop a)))) (LS w ns x2 x3 (some (.str (S1 L))) x5 (some (.int a)) x7 x8 x10)) := fun w => by simp [LS, So_s, c2, l1]
  have q3 : lX1 (LS w ns x2 x3 (some (.str (S1 L))) x5 (some (.int a)) x7 x8 x10) = some (.val (.sh (.str (S1 [c]))) (LS w1 ns x2 x3 (some (.str (S1 L))) x5 (some (.int a)) x7 x8 x10)) := by
    unfold lX1
    exact dCall_eq (s2 := LS w ns x2 x3 (some (.str (S1 L))) x5 (some (.int a)) x7 x8 x10) (xs := [.dr, .sh (.lst [.str "A", .str "Z", .str "?", .str "_", .str ".", .str "+", .str "(", .str "*", .str "=", .str "#", .str "|"])]) (by simp [LS]) e1
  have q4 : lX2 (LS w1 ns x2 x3 (some (.str (S1 L))) x5 (some (.int a)) x7 x8 x10) = some (.val (.sh (.str (S1 R))) (LS w2 ns x2 x3 (some (.str (S1 L))) x5 (some (.int a)) x7 x8 x10)) := by
    unfold lX2
    exact dCall_eq (s2 := LS w1 ns x2 x3 (some (.str (S1 L))) x5 (some (.int a)) x7 x8 x10) (xs := [.dr, .sh (.lst [.str "", .str "?", .str " A"])]) (by simp [LS]) e2
  have q5 := dOp_eq (g := gAdd) (q1 w) q3 rfl rfl (r := .sh (.str (S1 (L.take a ++ [c])))) (by
    rw [gAdd_str, if_pos (by rw [S1_length, S1_length]; simp; omega), S1_app])
  have q6 := dOp_eq (g := gAdd) q5 (q2 w1) rfl rfl (r := .sh (.str (S1 (L.take a ++ [c] ++ L.drop a)))) (by
    rw [gAdd_str, if_pos (by rw [S1_length, S1_length]; simp; omega), S1_app])
  have q7 := dOp_eq (g := gAdd) q6 q4 rfl rfl (r := .sh (.str (S1 (L.take a ++ [c] ++ L.drop a ++ R)))) (by
    rw [gAdd_str, if_pos (by rw [S1_length, S1_length]; simp; omega), S1_app])
  rw [List.append_assoc (L.take a ++ [c])] at q7
  exact dSet_st LS_st q7 (by simp [LS])
theorem lam_bad (k : KF K) {s : S} {i a : Nat} {d : D} (hT : s.w.T = T0) (hi : i < 15) (he : s.e[i]? = some (.sh d)) (ha : a < 1000000) (h : ∀ w, fn_tokens_of K w [.sh d] = some (.exc ⟨He.ga K "BadText", some ("at", .int a)⟩ w)) {u : TAf} (hu : u s = some (.vals [.sh (.int a)] s)) :
    dCallLam T0 15 [i] (dCall (fn_tokens_of K) (dCons (dVar i) dNil)) (FT__law_is_bad_at K) u s = some (.val (.sh (.bl true)) s) := by
  unfold dCallLam
  rw [if_pos ⟨hT, capD_one he⟩, hu, aE_val, callEnd_cr, bad_cr k ha (lam_exc hi he (h s.w))]
  rfl
theorem lam_many (k : KF K) {s : S} {i a : Nat} {d : D} (hT : s.w.T = T0) (hi : i < 15) (he : s.e[i]? = some (.sh d)) (ha : a < 1000000) (h : ∀ w, fn_tokens_of K w [.sh d] = some (.exc ⟨He.ga K "TooMany", some ("most", .int a)⟩ w)) {u : TAf} (hu : u s = some (.vals [.sh (.int a)] s)) :
    dCallLam T0 15 [i] (dCall (fn_tokens_of K) (dCons (dVar i) dNil)) (FT__law_is_too_many K) u s = some (.val (.sh (.bl true)) s) := by
  unfold dCallLam
  rw [if_pos ⟨hT, capD_one he⟩, hu, aE_val, callEnd_cr, many_cr k ha (lam_exc hi he (h s.w))]
  rfl
theorem lB10_eq (k : KF K) (g : Good T0 m w) (hl : L.length ≤ 1000) (hL : ∀ c ∈ L, okc c) {a c : Nat} (ha : a ≤ L.length) {R : List Nat} (hc : ¬ okc c) (hc2 : c < 0x110000) (hR : R.length ≤ 2) (hR2 : ∀ c ∈ R, c < 0x110000) :
    lB10 K T0 (LS w ns x2 x3 x4 x5 (some (.int a)) x7 x8 (some (.str (S1 (L.take a ++ [c] ++ (L.drop a ++ R)))))) = some (.nx (LS w ns x2 x3 x4 x5 (some (.int a)) x7 x8 (some (.str (S1 (L.take a ++ [c] ++ (L.drop a ++ R))))))) := by
  obtain ⟨ps, sc⟩ := bent_sc (R := L.drop a ++ R) hL ha hc
  have hok : ∀ x ∈ L.take a ++ [c] ++ (L.drop a ++ R), x < 0x110000 := fun x hx => by
    rcases List.mem_append.mp hx with hx | hx
    · rcases List.mem_append.mp hx with hx | hx
      · exact okc_lt (hL x (List.mem_of_mem_take hx))
      · rw [List.mem_singleton.mp hx]; exact hc2
    · rcases List.mem_append.mp hx with hx | hx
      · exact okc_lt (hL x (List.mem_of_mem_drop hx))
      · exact hR2 x hx
  have hlen : (L.take a ++ [c] ++ (L.drop a ++ R)).length ≤ 100000 := by simp; omega
  have e := lam_bad (T0 := T0) k (s := LS w ns x2 x3 x4 x5 (some (.int a)) x7 x8 (some (.str (S1 (L.take a ++ [c] ++ (L.drop a ++ R)))))) (i := 10) (a := a) g.T (by decide) rfl (by omega) (fun w => tokens_bad hlen sc hok) (u := dCons (dVar 6) dNil) (by simp [LS, So_s])
  unfold lB10
  refine (dIfS_st_false LS_st ?_).trans rfl
  unfold dNot
  rw [dTest_eq e]
  rfl
/-- one turn of the law -/
theorem turn_eq (k : KF K) (hm : m + 10000 < 281474976710656) (g : Good T0 m w) : ∃ (w' : W) (x3' x4' x5' x6' x7' x8' x10' : Option D), lBody K T0 (LS w ns x2 x3 x4 x5 x6 x7 x8 x10) = some (.nx (LS w' ns x2 x3' x4' x5' x6' x7' x8' x10')) ∧ Good T0 (m + 2000) w' := by
  obtain ⟨tks, w1, e1, g1, h1, h2⟩ := lB1_eq (ns := ns) (x2 := x2) (x3 := x3) (x4 := x4) (x5 := x5) (x6 := x6) (x7 := x7) (x8 := x8) (x10 := x10) (by omega) g
  obtain ⟨i, ss, e, w2, e2, g2, t, h3, h4⟩ := lB2_eq (ns := ns) (x2 := x2) (x4 := x4) (x5 := x5) (x6 := x6) (x7 := x7) (x8 := x8) (x10 := x10) (by omega) g1 h1 h2
  have ok : ∀ c ∈ i ++ flat ss e, c < 0x110000 := fun c hc => okc_lt (t.ok c hc)
  have hp : (places ss i.length).map (fun q => D.str q.1) = tks.map strL := by
    have := congrArg (List.map D.str) (places_fst ss i.length)
    rw [List.map_map, List.map_map] at this
    rw [← h3, List.map_map]
    exact this
  have pok : ∀ c ∈ plainL tks, okc c := joinL_mem [32] okc (fun c hc => by rw [List.mem_singleton.mp hc]; exact .inl (by decide)) tks fun t ht => tk_ok (h2 t ht).1
  have plen : (plainL tks).length ≤ 1000 := by
    have := joinL_le [32] 70 tks fun t ht => (h2 t ht).2
    have e32 : ([32] : List Nat).length = 1 := rfl
    rw [e32] at this
    have h5 : tks.length * (70 + 1) ≤ 13 * (70 + 1) := Nat.mul_le_mul_right _ h1
    show (TL.joinL [32] tks).length ≤ _
    omega
  obtain ⟨pp, psc⟩ := sc_good (L := plainL tks) _ 0 rfl fun j x _ hx => pok x (List.mem_of_getElem? hx)
  obtain ⟨w3, y6, y8, e7, g3⟩ := lB7_eq (K := K) (ns := ns) (x2 := x2) (x3 := some (.lst (tks.map strL))) (x6 := none) (x7 := some (.str (S1 (plainL tks)))) (x8 := x8) (x10 := x10) (by omega) g2 t h4
  obtain ⟨a, w4, e8, g4, ha⟩ := lB8_eq (ns := ns) (x2 := x2) (x3 := some (.lst (tks.map strL))) (x5 := some (.tup (toks (places ss i.length)))) (x6 := y6) (x7 := some (.str (S1 (plainL tks)))) (x8 := y8) (x10 := x10) (by omega) g3 h4
  obtain ⟨c, R, w5, e9, g5, h6, h7, h8, h9⟩ := lB9_eq (ns := ns) (x2 := x2) (x3 := some (.lst (tks.map strL))) (x5 := some (.tup (toks (places ss i.length)))) (x7 := some (.str (S1 (plainL tks)))) (x8 := y8) (x10 := x10) (by omega) g4 h4 ha
  refine ⟨w5, some (.lst (tks.map strL)), some (.str (S1 (i ++ flat ss e))), some (.tup (toks (places ss i.length))), some (.int a), some (.str (S1 (plainL tks))), y8, some (.str (S1 ((i ++ flat ss e).take a ++ [c] ++ ((i ++ flat ss e).drop a ++ R)))), ?_, g5.mono (by omega)⟩
  unfold lBody
  rw [dSeq_nx e1, dSeq_nx e2, dSeq_nx (lB3_eq h4 t.sc), dSeq_nx (lB4_eq h1 h2 h4 t.sc ok hp), dSeq_nx (lB5_eq h1 h2), dSeq_nx (lB6_eq plen psc fun c hc => okc_lt (pok c hc)), dSeq_nx e7, dSeq_nx e8, dSeq_nx e9]
  exact lB10_eq k g5 h4 t.ok ha h6 h7 h8 h9
end
end Gk11

end

section -- K11m25
set_option Elab.async false
set_option linter.all false
set_option maxRecDepth 100000
set_option maxHeartbeats 4000000
/-! the law's loops and its end -/
namespace Gk11
open PySem PySem.Spec L2 DL
section
variable {K : PySem.W.Frag} {T0 : List (Addr × Str)} {m : Int} {w : W} {ns : List Int}
theorem l_for (k : KF K) : ∀ (ls : List Nat) (m : Int) (w : W) (x2 x3 x4 x5 x6 x7 x8 x10 : Option D), Good T0 m w → m + 2000 * ls.length + 10000 < 281474976710656 →
    ∃ (w' : W) (y2 y3 y4 y5 y6 y7 y8 y10 : Option D), forS (gNm 2) (lBody K T0) (ls.map fun i => .int (i : Nat)) (LS w ns x2 x3 x4 x5 x6 x7 x8 x10) = some (.nx (LS w' ns y2 y3 y4 y5 y6 y7 y8 y10)) ∧ Good T0 (m + 2000 * ls.length) w'
  | [], m, w, x2, x3, x4, x5, x6, x7, x8, x10, g, _ => ⟨w, x2, x3, x4, x5, x6, x7, x8, x10, rfl, by simpa using g⟩
  | i :: ls, m, w, x2, x3, x4, x5, x6, x7, x8, x10, g, hm => by
    rw [List.length_cons] at hm
    obtain ⟨w1, y3, y4, y5, y6, y7, y8, y10, e1, g1⟩ := turn_eq (ns := ns) (x2 := some (.int (i : Nat))) (x3 := x3) (x4 := x4) (x5 := x5) (x6 := x6) (x7 := x7) (x8 := x8) (x10 := x10) k (by omega) g
    obtain ⟨w2, z2, z3, z4, z5, z6, z7, z8, z10, e2, g2⟩ := l_for k ls (m + 2000) w1 (some (.int (i : Nat))) y3 y4 y5 y6 y7 y8 y10 g1 (by omega)
    refine ⟨w2, z2, z3, z4, z5, z6, z7, z8, z10, ?_, g2.mono (by rw [List.length_cons]; omega)⟩
    rw [List.map_cons]
    exact (forS_nx (by simp [LS, So_s]) e1).trans e2
/-- with the slots of the last two parts -/
def LT (w : W) (ns : List Int) (y2 y3 y4 y5 y6 y7 y8 y9 y10 y11 : Option D) : S := ⟨w, [.sh (.lst (ns.map .int)), .dr, So y2, So y3, So y4, So y5, So y6, So y7, So y8, So y9, So y10, So y11, .no, .no, .no]⟩
variable {y2 y3 y4 y5 y6 y7 y8 y9 y10 y11 : Option D}
theorem LT_st : Stab (LT w ns y2 y3 y4 y5 y6 y7 y8 y9 y10 y11).e := .sh (.dr (.so (.so (.so (.so (.so (.so (.so (.so (.so (.so (.no (.no (.no .nil))))))))))))))
theorem LS_LT {x2 x3 x4 x5 x6 x7 x8 x10 : Option D} : LS w ns x2 x3 x4 x5 x6 x7 x8 x10 = LT w ns x2 x3 x4 x5 x6 x7 x8 none x10 none := rfl
theorem bad_turn (k : KF K) (g : Good T0 m w) {d : D} {ty : String} (hd : dTy d = some ty) (hk : kitB ty "str" = some false) :
    (dIfS (dNot (dTest (dCallLam T0 15 [9] (dCall (fn_tokens_of K) (dCons (dVar 9) dNil)) (FT__law_is_bad_at K) (dCons (dC (.int 0)) dNil)))) (dRet (dC (.bl false))) dNext) (LT w ns y2 y3 y4 y5 y6 y7 y8 (some d) y10 y11) = some (.nx (LT w ns y2 y3 y4 y5 y6 y7 y8 (some d) y10 y11)) := by
  have e := lam_bad (T0 := T0) k (s := LT w ns y2 y3 y4 y5 y6 y7 y8 (some d) y10 y11) (i := 9) (a := 0) g.T (by decide) rfl (by omega) (fun w => tokens_of_type hd hk) (u := dCons (dC (.int 0)) dNil) rfl
  refine (dIfS_st_false LT_st ?_).trans rfl
  unfold dNot
  rw [dTest_eq e]
  rfl
theorem asg9 (d : D) : gNm 9 d (LT w ns y2 y3 y4 y5 y6 y7 y8 y9 y10 y11) = some (LT w ns y2 y3 y4 y5 y6 y7 y8 (some d) y10 y11) := by simp [LT, So_s]
theorem loop2_eq (k : KF K) (g : Good T0 m w) : ∃ z9, lLoop2 K T0 (LT w ns y2 y3 y4 y5 y6 y7 y8 y9 y10 y11) = some (.nx (LT w ns y2 y3 y4 y5 y6 y7 y8 z9 y10 y11)) := by
  refine ⟨some (.bl true), ?_⟩
  unfold lLoop2
  have hi : (iSq (dLst (dCons (dC .non) (dCons (dC (.int 5)) (dCons (dTup (dCons (dC (.str "a")) dNil)) (dCons (dLst (dCons (dC (.str "a")) dNil)) (dCons (dC (.bl true)) dNil))))))) (LT w ns y2 y3 y4 y5 y6 y7 y8 y9 y10 y11) = some (.it [.non, .int 5, .tup [.str "a"], .lst [.str "a"], .bl true] false (LT w ns y2 y3 y4 y5 y6 y7 y8 y9 y10 y11)) := by simp
  rw [dFor_st LT_st hi]
  rw [forS_nx (asg9 _) (bad_turn k g (ty := "NoneType") rfl (by rfl)), forS_nx (asg9 _) (bad_turn k g (ty := "int") rfl (by rfl)), forS_nx (asg9 _) (bad_turn k g (ty := "tuple") rfl (by rfl)), forS_nx (asg9 _) (bad_turn k g (ty := "list") rfl (by rfl)), forS_nx (asg9 _) (bad_turn k g (ty := "bool") rfl (by rfl))]
  rfl
/-- the long text -/
def longL (n : Nat) : List Nat := List.replicate n 32 ++ [97, 98, 99]
theorem long_eq (hm : m + 5000 < 281474976710656) (g : Good T0 m w) : ∃ (n : Nat) (w' : W), lLong (LT w ns y2 y3 y4 y5 y6 y7 y8 y9 y10 y11) = some (.nx (LT w' ns y2 y3 y4 y5 y6 y7 y8 y9 y10 (some (.str (S1 (longL n)))))) ∧ Good T0 (m + 1) w' ∧ (n = 99997 ∨ n = 99998) := by
  obtain ⟨x, w', e, g2, h1, h2⟩ := take_cr (by omega) g (high := 2) (by decide) (by decide)
  obtain ⟨n, hn⟩ : ∃ n : Nat, (99997 : Int) + x = (n : Int) := ⟨(99997 + x).toNat, by omega⟩
  refine ⟨n, w', ?_, g2, by omega⟩
  have e1 : dCall (fn__law_take) (dCons (dVar 1) (dCons (dC (.int 2)) dNil)) (LT w ns y2 y3 y4 y5 y6 y7 y8 y9 y10 y11) = some (.val (.sh (.int x)) (LT w' ns y2 y3 y4 y5 y6 y7 y8 y9 y10 y11)) := dCall_eq (s2 := LT w ns y2 y3 y4 y5 y6 y7 y8 y9 y10 y11) (xs := [.dr, .sh (.int 2)]) (by simp [LT]) e
  have e2 := dOp_eq (g := gAdd) (t := dC (.int 99997)) (s := LT w ns y2 y3 y4 y5 y6 y7 y8 y9 y10 y11) rfl e1 rfl rfl (r := .sh (.int n)) (by rw [gAdd_int, hn])
  have e3 := dOp_eq (g := gMul) (t := dC (.str " ")) (s := LT w ns y2 y3 y4 y5 y6 y7 y8 y9 y10 y11) rfl e2 rfl rfl (r := .sh (.str (S1 (List.replicate n 32)))) (by
    rw [gMul_str, if_pos, mul_blank n (by omega)]
    unfold strMulOk
    refine decide_eq_true ⟨by omega, by omega, ?_⟩
    have : (" " : Str).length = 1 := rfl
    rw [this]
    omega)
  have e4 := dOp_eq (g := gAdd) e3 (u := dC (.str "abc")) rfl rfl rfl (r := .sh (.str (S1 (longL n)))) (by
    have h3 : ("abc" : Str).length = 3 := rfl
    rw [gAdd_str, if_pos (by rw [S1_length, List.length_replicate, h3]; omega)]
    have : ("abc" : Str) = S1 [97, 98, 99] := by decide
    rw [this, S1_app]
    rfl)
  exact dSet_st LT_st e4 (by simp [LT])
theorem longL_len (n : Nat) : (longL n).length = n + 3 := by unfold longL; simp
theorem longL_flat (n : Nat) : List.replicate n 32 ++ flat [([], [97, 98, 99])] [] = longL n := rfl
theorem end_eq (k : KF K) (g : Good T0 m w) {n : Nat} (hn : n = 99997 ∨ n = 99998) : ∃ s', lEnd K T0 (LT w ns y2 y3 y4 y5 y6 y7 y8 y9 y10 (some (.str (S1 (longL n))))) = some (.rt (.sh (.bl true)) s') := by
  obtain ⟨s, hs⟩ : ∃ s, s = LT w ns y2 y3 y4 y5 y6 y7 y8 y9 y10 (some (.str (S1 (longL n)))) := ⟨_, rfl⟩
  refine ⟨s, ?_⟩
  rw [← hs]
  have e11 : dVar 11 s = some (.val (.sh (.str (S1 (longL n)))) s) := by rw [hs]; simp [LT, So_s]
  have hlen : (S1 (longL n)).length = n + 3 := by rw [S1_length, longL_len]
  have q1 := dCB_eq (g := gLen) (dCons1_eq e11) rfl (r := .sh (.int ((n + 3 : Nat) : Int))) (by
    show gLen [.str (S1 (longL n))] = _
    rw [gLen_str, if_pos (by rw [hlen]; omega), hlen])
  have q2 : dTest (dOp gEq (dCB gLen (dCons (dVar 11) dNil)) (dC (.int 100000))) s = some (.tv (decide (n = 99997)) s) := by
    refine dTest_eq (dOp_eq (g := gEq) q1 (u := dC (.int 100000)) rfl rfl rfl ?_)
    unfold gEq
    rw [eqD_int]
    have : (((n + 3 : Nat) : Int) = 100000) ↔ n = 99997 := by omega
    simp only [this, Option.map_some]
  unfold lEnd
  refine dRet_eq ?_
  unfold dIf
  rw [q2]
  show (if decide (n = 99997) = true then _ else _) = _
  rcases hn with rfl | rfl
  · rw [if_pos (by decide)]
    have t : Txt1 (List.replicate 99997 32) [([], [97, 98, 99])] [] := ⟨fun c hc => by rw [List.eq_of_mem_replicate hc]; decide, by simp, .row (.inl rfl) (by simp) (by decide), by intro c hc; simp [flat] at hc, by intro c hc; cases hc⟩
    have sc := t.sc
    have eL : List.replicate 99997 32 ++ flat [([], [97, 98, 99])] [] = longL 99997 := longL_flat _
    rw [eL, List.length_replicate] at sc
    have hok : ∀ c ∈ longL 99997, c < 0x110000 := fun c hc => by rw [← eL] at hc; exact okc_lt (t.ok c hc)
    have hp : places [([], [97, 98, 99])] 99997 = [(("abc" : Str), 99997)] := by decide
    rw [hp] at sc
    have q3 := tok_eq (K := K) e11 (by rw [longL_len]; omega) sc hok
    have q4 : (dTup (dCons (dTup (dCons (dC (.str "abc")) (dCons (dC (.int 99997)) dNil))) dNil)) s = some (.val (.sh (.tup (toks [(("abc" : Str), 99997)]))) s) := by
      simp [toks, tok]
    have rs := rsa_toks (ps := [(("abc" : Str), 99997)]) (n := 10) (fun q hq => by rw [List.mem_singleton.mp hq]; decide +kernel) (fun q hq => by rw [List.mem_singleton.mp hq]; decide) (fun q hq => by rw [List.mem_singleton.mp hq]; decide)
    exact dCall_eq (dCons_eq q3 (dCons1_eq q4)) (same_cr (rs_tup rs) (by decide) (by decide))
  · rw [if_neg (by decide)]
    refine lam_many (T0 := T0) k (i := 11) (a := 100000) (by rw [hs]; exact g.T) (by decide) (by rw [hs]; rfl) (by omega) (fun w => tokens_of_many (K := K) (w := w) (t := S1 (longL 99998)) ?_ ?_) rfl
    · rw [S1_size, longL_len]; omega
    · rw [S1_size, longL_len]; omega
theorem math (K : PySem.W.Frag) (Pt : Addr) (ns : List Int) (k : KF K) (hn : ns.length ≤ 63) : ∃ s', t_law K [(Pt, qL)] (lawS "turn" begunF [(Pt, qL)] 13 ns) = some (.rt (.sh (.bl true)) s') := by
  obtain ⟨w, hw⟩ : ∃ w : W, w = ⟨(begunF ns).1, (begunF ns).2, 0, 0, "turn", [(Pt, qL)]⟩ := ⟨_, rfl⟩
  have g : Good [(Pt, qL)] 0 w := by rw [hw]; exact ⟨rfl, rfl, Int.le_refl _, Int.le_refl _⟩
  have hs : lawS "turn" begunF [(Pt, qL)] 13 ns = LS w ns none none none none none none none none := by rw [hw]; rfl
  rw [hs, law_t]
  obtain ⟨n, hn2, hn3⟩ : ∃ n : Nat, (8 : Int) + (if (12 : Int) < (ns.length : Int) then 12 else (ns.length : Int)) = (n : Int) ∧ n ≤ 20 := by
    by_cases h : (12 : Int) < (ns.length : Int)
    · rw [if_pos h]; exact ⟨20, rfl, by decide⟩
    · rw [if_neg h]; exact ⟨8 + ns.length, by omega, by omega⟩
  have hi : lIt (LS w ns none none none none none none none none) = some (.it ((List.range n).map fun i => .int (i : Nat)) true (LS w ns none none none none none none none none)) := by
    unfold lIt
    rw [iRg1_rg]
    have e0 : dVar 0 (LS w ns none none none none none none none none) = some (.val (.sh (.lst (ns.map .int))) (LS w ns none none none none none none none none)) := by simp [LS]
    have e1 := dCB_eq (g := gLen) (dCons1_eq e0) rfl (r := .sh (.int ns.length)) (by show gLen [.lst (ns.map .int)] = _; rw [gLen_lst, List.length_map])
    have e2 := dCB_eq (g := gMin) (dCons_eq e1 (dCons1_eq (t := dC (.int 12)) rfl)) rfl (r := .sh (.int (if (12 : Int) < (ns.length : Int) then 12 else (ns.length : Int)))) rfl
    have e3 := dOp_eq (g := gAdd) (t := dC (.int 8)) (s := LS w ns none none none none none none none none) rfl e2 rfl rfl (r := .sh (.int n)) (by rw [gAdd_int, hn2])
    rw [dCons1_eq e3, aI_val]
    exact rgI_eq rfl (by omega)
  obtain ⟨w1, z2, z3, z4, z5, z6, z7, z8, z10, e1, g1⟩ := l_for (ns := ns) k (List.range n) 0 w none none none none none none none none g (by simp; omega)
  rw [List.length_range] at g1
  rw [dSeq_nx ((dFor_st LS_st hi).trans e1), LS_LT]
  obtain ⟨z9, e2⟩ := loop2_eq (ns := ns) (y2 := z2) (y3 := z3) (y4 := z4) (y5 := z5) (y6 := z6) (y7 := z7) (y8 := z8) (y9 := none) (y10 := z10) (y11 := none) k g1
  obtain ⟨n2, w2, e3, g2, h2⟩ := long_eq (ns := ns) (y2 := z2) (y3 := z3) (y4 := z4) (y5 := z5) (y6 := z6) (y7 := z7) (y8 := z8) (y9 := z9) (y10 := z10) (y11 := none) (by omega) g1
  rw [dSeq_nx e2, dSeq_nx e3]
  exact end_eq k g2 h2
end
end Gk11
theorem Gk11.holds : PySem.Challenge.rw_looksfit_k11_whole_tokens.Holds := Gk11.holds_of Gk11.math

end

set_option maxRecDepth 100000 in
theorem PySem.Challenge.cw_looksfit_k11_whole_tokens_holds : PySem.Challenge.rw_looksfit_k11_whole_tokens.Holds := by
  exact Gk11.holds
