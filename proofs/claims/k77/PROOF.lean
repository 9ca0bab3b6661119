import PyProof.Rows.All
import Wide.All
import OpenK.AllK
import Wide.FinOn
import HandS.ForMost
import HandS.ForExc
import HandS.SuiteRaise
import HandS.TupAny
import HandS.TupMul
import HandS.TupLe
import HandS.Style
import HandS.Deep
import HandS.Wide
import HandS.StrMore
import HandS.FStr
import HandS.IsInst
import HandS.NoneIn
import PyProof.Draws
import PyProof.EnumMake
import PyProof.ReprRoads
import HandS.Dict
import PyProof.ReprText
import PyProof.StrLawsRepr
import PyProof.ReprLoop
import PyProof.Rows.StrIntSpec
import KE.KStateDown
import Lean
import HandS.Head0
import HandS.Head1
import HandS.Head2
import HandS.HeadEnd
import HandS.HeadHook1
import HandS.HeadHook2
import PyProof.Rows.StrSigns2
import PyProof.Rows.StrFirst
import PyProof.Rows.StrLawsPart
import PyProof.Rows.RegReprOcc
import PyProof.StrLawsChain
import PyProof.StrLawsTight
import PyProof.Rows.StrItems
import PySem.Challenge.RW_onelinekept_k77_halves_bear_place_number
set_option Elab.async false
set_option linter.all false
set_option maxRecDepth 100000
set_option maxHeartbeats 4000000
/-! DLa: a layer of data over the hand layer. D: data (PyData); M: what a slot owns; R: what a piece of text does with the slots.
A piece of text is shown to do what a plain function of the slots' data says. -/
namespace DL
open PySem PySem.Spec PyProof.Rows L2

abbrev D := PyData
abbrev St := L2.St
def kD : Key → D
  | .inl i => .int i
  | .inr x => .str x

/-! ### data at a value, in a part of the heap that stands still -/
mutual
inductive Rp (K : PySem.W.Frag) (F : Hp) : V → D → Prop
  | non : Rp K F .non .none
  | bl (b : Bool) : Rp K F (.bl b) (.bool b)
  | int (i : Int) : Rp K F (.int i) (.int i)
  | str (x : Str) : Rp K F (.str x) (.str x)
  | lst {a : Addr} {xs : List V} {ds : List D} : SqL K F a xs → Rps K F xs ds → Rp K F (.ref a) (.list ds)
  | tup {a : Addr} {xs : List V} {ds : List D} : SqT K F a xs → Rps K F xs ds → Rp K F (.ref a) (.tuple ds)
  | dct {a : Addr} {kvs : List (Key × V)} {ds : List (D × D)} : F a = some (.dK kvs) → Rpk K F kvs ds → Rp K F (.ref a) (.dict ds)
inductive Rps (K : PySem.W.Frag) (F : Hp) : List V → List D → Prop
  | nil : Rps K F [] []
  | cons {v : V} {vs : List V} {d : D} {ds : List D} : Rp K F v d → Rps K F vs ds → Rps K F (v :: vs) (d :: ds)
inductive Rpk (K : PySem.W.Frag) (F : Hp) : List (Key × V) → List (D × D) → Prop
  | nil : Rpk K F [] []
  | cons {k : Key} {v : V} {kvs : List (Key × V)} {d : D} {ds : List (D × D)} : Rp K F v d → Rpk K F kvs ds → Rpk K F ((k, v) :: kvs) ((kD k, d) :: ds)
end

def Le (F H : Hp) : Prop := ∀ a o, F a = some o → H a = some o
theorem Le.refl (F : Hp) : Le F F := fun _ _ h => h
theorem Le.trans {A B C : Hp} (h : Le A B) (g : Le B C) : Le A C := fun a o e => g a o (h a o e)
theorem Le.rd {F H : Hp} {a : Addr} {u : HO} (l : Le F H) (h : Rd F a u) : Rd H a u := by
  rcases h with h | ⟨o, h⟩
  · exact .inl (l _ _ h)
  · exact .inr ⟨o, l _ _ h⟩
theorem Le.sl {K : PySem.W.Frag} {F H : Hp} {a : Addr} {xs : List V} (l : Le F H) (h : SqL K F a xs) : SqL K H a xs := by
  rcases h with h | h
  · exact .inl (l.rd h)
  · exact .inr h
theorem Le.st {K : PySem.W.Frag} {F H : Hp} {a : Addr} {xs : List V} (l : Le F H) (h : SqT K F a xs) : SqT K H a xs := by
  rcases h with h | h
  · exact .inl (l.rd h)
  · exact .inr h
mutual
theorem Rp.mono {K : PySem.W.Frag} {F H : Hp} (l : Le F H) : ∀ {v : V} {d : D}, Rp K F v d → Rp K H v d
  | _, _, .non => .non
  | _, _, .bl b => .bl b
  | _, _, .int i => .int i
  | _, _, .str x => .str x
  | _, _, .lst h hs => .lst (l.sl h) (Rps.mono l hs)
  | _, _, .tup h hs => .tup (l.st h) (Rps.mono l hs)
  | _, _, .dct h hs => .dct (l _ _ h) (Rpk.mono l hs)
theorem Rps.mono {K : PySem.W.Frag} {F H : Hp} (l : Le F H) : ∀ {vs : List V} {ds : List D}, Rps K F vs ds → Rps K H vs ds
  | _, _, .nil => .nil
  | _, _, .cons h hs => .cons (Rp.mono l h) (Rps.mono l hs)
theorem Rpk.mono {K : PySem.W.Frag} {F H : Hp} (l : Le F H) : ∀ {vs : List (Key × V)} {ds : List (D × D)}, Rpk K F vs ds → Rpk K H vs ds
  | _, _, .nil => .nil
  | _, _, .cons h hs => .cons (Rp.mono l h) (Rpk.mono l hs)
end
section
variable {K : PySem.W.Frag} {F : Hp}
theorem Rps.length : ∀ {vs : List V} {ds : List D}, Rps K F vs ds → vs.length = ds.length
  | _, _, .nil => rfl
  | _, _, .cons _ hs => by rw [List.length_cons, List.length_cons, Rps.length hs]
theorem Rps.get : ∀ {vs : List V} {ds : List D} {i : Nat} {d : D}, Rps K F vs ds → ds[i]? = some d → ∃ v, vs[i]? = some v ∧ Rp K F v d
  | _, _, _, _, .nil, e => by simp at e
  | _, _, 0, _, .cons h _, e => by simp at e; subst e; exact ⟨_, rfl, h⟩
  | _, _, i + 1, d, .cons _ hs, e => by
    obtain ⟨v, h1, h2⟩ := Rps.get (i := i) (d := d) hs (by simpa using e)
    exact ⟨v, by simpa using h1, h2⟩
theorem Rps.at : ∀ {vs : List V} {ds : List D} {i : Nat} {v : V}, Rps K F vs ds → vs[i]? = some v → ∃ d, ds[i]? = some d ∧ Rp K F v d
  | _, _, _, _, .nil, e => by simp at e
  | _, _, 0, _, .cons h _, e => by simp at e; subst e; exact ⟨_, rfl, h⟩
  | _, _, i + 1, v, .cons _ hs, e => by
    obtain ⟨d, h1, h2⟩ := Rps.at (i := i) (v := v) hs (by simpa using e)
    exact ⟨d, by simpa using h1, h2⟩
theorem Rps.app : ∀ {vs ws : List V} {ds es : List D}, Rps K F vs ds → Rps K F ws es → Rps K F (vs ++ ws) (ds ++ es)
  | _, _, _, _, .nil, h => h
  | _, _, _, _, .cons h hs, g => .cons h (Rps.app hs g)
theorem Rps.take : ∀ {vs : List V} {ds : List D} (n : Nat), Rps K F vs ds → Rps K F (vs.take n) (ds.take n)
  | _, _, 0, _ => .nil
  | _, _, _ + 1, .nil => .nil
  | _, _, n + 1, .cons h hs => .cons h (Rps.take n hs)
theorem Rps.drop : ∀ {vs : List V} {ds : List D} (n : Nat), Rps K F vs ds → Rps K F (vs.drop n) (ds.drop n)
  | _, _, 0, h => h
  | _, _, _ + 1, .nil => .nil
  | _, _, n + 1, .cons _ hs => Rps.drop n hs
theorem Rps.rev {vs : List V} {ds : List D} (h : Rps K F vs ds) : Rps K F vs.reverse ds.reverse := by
  have go : ∀ {vs : List V} {ds : List D}, Rps K F vs ds → ∀ {us : List V} {es : List D}, Rps K F us es → Rps K F (vs.reverseAux us) (ds.reverseAux es) := by
    intro vs
    induction vs with
    | nil => intro ds h us es g; cases h; exact g
    | cons v vs ih => intro ds h us es g; cases h with | cons h hs => exact ih hs (.cons h g)
  exact go h .nil
theorem Rps.one {v : V} {d : D} (h : Rp K F v d) : Rps K F [v] [d] := .cons h .nil
end

/-! ### what a slot owns -/
inductive M where
  | d (x : D)
  | lst (ms : List M)
  | dct (kvs : List (Key × M))
abbrev Env := List (Option M)
/-- an exception of the text's own: its class's name, its fields -/
structure Exc where
  cls : Str
  fs : List (Str × D)
mutual
def frz : M → D
  | .d x => x
  | .lst ms => .list (frzs ms)
  | .dct kvs => .dict (frzk kvs)
def frzs : List M → List D
  | [] => []
  | m :: ms => frz m :: frzs ms
def frzk : List (Key × M) → List (D × D)
  | [] => []
  | (k, m) :: r => (kD k, frz m) :: frzk r
end
theorem frzs_d : ∀ ds : List D, frzs (ds.map .d) = ds
  | [] => by rw [List.map_nil, frzs]
  | x :: ds => by rw [List.map_cons, frzs, frz, frzs_d ds]
theorem frzs_append : ∀ a b : List M, frzs (a ++ b) = frzs a ++ frzs b
  | [], b => by rw [frzs]; rfl
  | m :: a, b => by rw [List.cons_append, frzs, frzs, frzs_append a b]; rfl
theorem frzs_length : ∀ a : List M, (frzs a).length = a.length
  | [] => by rw [frzs]; rfl
  | m :: a => by rw [frzs, List.length_cons, List.length_cons, frzs_length a]

mutual
/-- F: what stands still; H: all; the list: the addresses that it owns -/
inductive RpM (K : PySem.W.Frag) (F H : Hp) : V → M → List Addr → Prop
  | d {v : V} {x : D} : Rp K F v x → RpM K F H v (.d x) []
  | lst {a : Addr} {vs : List V} {ms : List M} {fp : List Addr} : H a = some (.lst vs) → RpMs K F H vs ms fp → RpM K F H (.ref a) (.lst ms) (a :: fp)
  | dct {a : Addr} {kvs : List (Key × V)} {ms : List (Key × M)} {fp : List Addr} : H a = some (.dK kvs) → (ms.map (·.1)).Nodup → RpMk K F H kvs ms fp → RpM K F H (.ref a) (.dct ms) (a :: fp)
inductive RpMs (K : PySem.W.Frag) (F H : Hp) : List V → List M → List Addr → Prop
  | nil : RpMs K F H [] [] []
  | cons {v : V} {vs : List V} {m : M} {ms : List M} {f1 f2 : List Addr} : RpM K F H v m f1 → RpMs K F H vs ms f2 → RpMs K F H (v :: vs) (m :: ms) (f1 ++ f2)
inductive RpMk (K : PySem.W.Frag) (F H : Hp) : List (Key × V) → List (Key × M) → List Addr → Prop
  | nil : RpMk K F H [] [] []
  | cons {k : Key} {v : V} {kvs : List (Key × V)} {m : M} {ms : List (Key × M)} {f1 f2 : List Addr} : RpM K F H v m f1 → RpMk K F H kvs ms f2 → RpMk K F H ((k, v) :: kvs) ((k, m) :: ms) (f1 ++ f2)
end
/-- the slots -/
inductive RpE (K : PySem.W.Frag) (F H : Hp) : Env → St → List Addr → Prop
  | nil : RpE K F H [] [] []
  | non {env : Env} {σ : St} {s : Option V} {fp : List Addr} : RpE K F H env σ fp → RpE K F H (none :: env) (s :: σ) fp
  | som {env : Env} {σ : St} {m : M} {v : V} {f1 f2 : List Addr} : RpM K F H v m f1 → RpE K F H env σ f2 → RpE K F H (some m :: env) (some v :: σ) (f1 ++ f2)

/-- what stands still, and what is owned -/
structure Wd (F H : Hp) (fp : List Addr) : Prop where
  le : Le F H
  nd : fp.Nodup
  off : ∀ a ∈ fp, F a = none
/-- how the two change -/
structure Ev (F H : Hp) (fp : List Addr) (F' H' : Hp) (fp' : List Addr) : Prop where
  frz : Le F F'
  keep : ∀ a o, H a = some o → a ∉ fp → H' a = some o
  own : ∀ a ∈ fp', a ∈ fp ∨ H a = none
  new : ∀ a o, F' a = some o → F a = some o ∨ a ∈ fp ∨ H a = none
theorem Ev.refl (F H : Hp) (fp : List Addr) : Ev F H fp F H fp := ⟨Le.refl _, fun _ _ h _ => h, fun _ h => .inl h, fun _ _ h => .inl h⟩
theorem Ev.trans {F H F1 H1 F2 H2 : Hp} {fp f1 f2 : List Addr} (x : Ev F H fp F1 H1 f1) (y : Ev F1 H1 f1 F2 H2 f2) : Ev F H fp F2 H2 f2 := by
  have nf : ∀ a, H1 a = none → a ∈ fp ∨ H a = none := fun a e => by
    by_cases hm : a ∈ fp
    · exact .inl hm
    · refine .inr ?_
      cases q : H a with
      | none => rfl
      | some o => rw [x.keep a o q hm] at e; cases e
  refine ⟨x.frz.trans y.frz, fun a o h hm => ?_, fun a h => ?_, fun a o h => ?_⟩
  · refine y.keep a o (x.keep a o h hm) fun z => ?_
    rcases x.own a z with q | q
    · exact hm q
    · rw [h] at q; cases q
  · rcases y.own a h with q | q
    · exact x.own a q
    · exact nf a q
  · rcases y.new a o h with q | q | q
    · exact x.new a o q
    · exact .inr (x.own a q)
    · exact .inr (nf a q)
/-- the same change where more is owned and stays -/
theorem Ev.frame {F H F' H' : Hp} {fp fp' fr : List Addr} (x : Ev F H fp F' H' fp') : Ev F H (fp ++ fr) F' H' (fp' ++ fr) :=
  ⟨x.frz, fun a o h hm => x.keep a o h fun z => hm (List.mem_append_left _ z), fun a h => by
    rcases List.mem_append.mp h with q | q
    · rcases x.own a q with z | z
      · exact .inl (List.mem_append_left _ z)
      · exact .inr z
    · exact .inl (List.mem_append_right _ q), fun a o h => by
    rcases x.new a o h with q | q | q
    · exact .inl q
    · exact .inr (.inl (List.mem_append_left _ q))
    · exact .inr (.inr q)⟩
theorem Ev.perm {F H F' H' : Hp} {fp fp' gp gp' : List Addr} (x : Ev F H fp F' H' fp') (h : ∀ a, a ∈ fp ↔ a ∈ gp) (h' : ∀ a, a ∈ gp' → a ∈ fp') : Ev F H gp F' H' gp' :=
  ⟨x.frz, fun a o e hm => x.keep a o e fun z => hm ((h a).mp z), fun a e => (x.own a (h' a e)).imp (h a).mp id, fun a o e => (x.new a o e).imp id (Or.imp (h a).mp id)⟩

mutual
theorem RpM.mono {K : PySem.W.Frag} {F H F' H' : Hp} (l : Le F F') : ∀ {v : V} {m : M} {fp : List Addr}, (∀ a ∈ fp, ∀ o, H a = some o → H' a = some o) → RpM K F H v m fp → RpM K F' H' v m fp
  | _, _, _, _, .d h => .d (h.mono l)
  | _, _, _, k, .lst h hs => .lst (k _ List.mem_cons_self _ h) (RpMs.mono l (fun a ha => k a (List.mem_cons_of_mem _ ha)) hs)
  | _, _, _, k, .dct h n hs => .dct (k _ List.mem_cons_self _ h) n (RpMk.mono l (fun a ha => k a (List.mem_cons_of_mem _ ha)) hs)
theorem RpMs.mono {K : PySem.W.Frag} {F H F' H' : Hp} (l : Le F F') : ∀ {v : List V} {m : List M} {fp : List Addr}, (∀ a ∈ fp, ∀ o, H a = some o → H' a = some o) → RpMs K F H v m fp → RpMs K F' H' v m fp
  | _, _, _, _, .nil => .nil
  | _, _, _, k, .cons h hs => .cons (RpM.mono l (fun a ha => k a (List.mem_append_left _ ha)) h) (RpMs.mono l (fun a ha => k a (List.mem_append_right _ ha)) hs)
theorem RpMk.mono {K : PySem.W.Frag} {F H F' H' : Hp} (l : Le F F') : ∀ {v : List (Key × V)} {m : List (Key × M)} {fp : List Addr}, (∀ a ∈ fp, ∀ o, H a = some o → H' a = some o) → RpMk K F H v m fp → RpMk K F' H' v m fp
  | _, _, _, _, .nil => .nil
  | _, _, _, k, .cons h hs => .cons (RpM.mono l (fun a ha => k a (List.mem_append_left _ ha)) h) (RpMk.mono l (fun a ha => k a (List.mem_append_right _ ha)) hs)
end
mutual
/-- what is owned stands in the heap -/
theorem RpM.there {K : PySem.W.Frag} {F H : Hp} : ∀ {v : V} {m : M} {fp : List Addr}, RpM K F H v m fp → ∀ a ∈ fp, ∃ o, H a = some o
  | _, _, _, .d h, a, ha => by cases ha
  | _, _, _, .lst h hs, a, ha => by
    rcases List.mem_cons.mp ha with rfl | ha
    · exact ⟨_, h⟩
    · exact RpMs.there hs a ha
  | _, _, _, .dct h _ hs, a, ha => by
    rcases List.mem_cons.mp ha with rfl | ha
    · exact ⟨_, h⟩
    · exact RpMk.there hs a ha
theorem RpMs.there {K : PySem.W.Frag} {F H : Hp} : ∀ {v : List V} {m : List M} {fp : List Addr}, RpMs K F H v m fp → ∀ a ∈ fp, ∃ o, H a = some o
  | _, _, _, .nil, a, ha => by cases ha
  | _, _, _, .cons h hs, a, ha => (List.mem_append.mp ha).elim (RpM.there h a) (RpMs.there hs a)
theorem RpMk.there {K : PySem.W.Frag} {F H : Hp} : ∀ {v : List (Key × V)} {m : List (Key × M)} {fp : List Addr}, RpMk K F H v m fp → ∀ a ∈ fp, ∃ o, H a = some o
  | _, _, _, .nil, a, ha => by cases ha
  | _, _, _, .cons h hs, a, ha => (List.mem_append.mp ha).elim (RpM.there h a) (RpMk.there hs a)
end
theorem RpE.mono {K : PySem.W.Frag} {F H F' H' : Hp} (l : Le F F') : ∀ {env : Env} {σ : St} {fp : List Addr}, (∀ a ∈ fp, ∀ o, H a = some o → H' a = some o) → RpE K F H env σ fp → RpE K F' H' env σ fp
  | _, _, _, _, .nil => .nil
  | _, _, _, k, .non h => .non (RpE.mono l k h)
  | _, _, _, k, .som h hs => .som (h.mono l fun a ha => k a (List.mem_append_left _ ha)) (RpE.mono l (fun a ha => k a (List.mem_append_right _ ha)) hs)
theorem RpE.there {K : PySem.W.Frag} {F H : Hp} : ∀ {env : Env} {σ : St} {fp : List Addr}, RpE K F H env σ fp → ∀ a ∈ fp, ∃ o, H a = some o
  | _, _, _, .nil, a, ha => by cases ha
  | _, _, _, .non h, a, ha => RpE.there h a ha
  | _, _, _, .som h hs, a, ha => (List.mem_append.mp ha).elim (h.there a) (RpE.there hs a)
theorem RpE.length {K : PySem.W.Frag} {F H : Hp} : ∀ {env : Env} {σ : St} {fp : List Addr}, RpE K F H env σ fp → env.length = σ.length
  | _, _, _, .nil => rfl
  | _, _, _, .non h => by rw [List.length_cons, List.length_cons, h.length]
  | _, _, _, .som _ h => by rw [List.length_cons, List.length_cons, h.length]

/-! ### borrowing: what is owned, read as data of the heap as it stands -/
mutual
theorem RpM.bor {K : PySem.W.Frag} {F H : Hp} (l : Le F H) : ∀ {v : V} {m : M} {fp : List Addr}, RpM K F H v m fp → Rp K H v (frz m)
  | _, _, _, .d h => by rw [frz]; exact h.mono l
  | _, _, _, .lst h hs => by rw [frz]; exact .lst (.inl (.inl h)) (RpMs.bor l hs)
  | _, _, _, .dct h _ hs => by rw [frz]; exact .dct h (RpMk.bor l hs)
theorem RpMs.bor {K : PySem.W.Frag} {F H : Hp} (l : Le F H) : ∀ {v : List V} {m : List M} {fp : List Addr}, RpMs K F H v m fp → Rps K H v (frzs m)
  | _, _, _, .nil => by rw [frzs]; exact .nil
  | _, _, _, .cons h hs => by rw [frzs]; exact .cons (RpM.bor l h) (RpMs.bor l hs)
theorem RpMk.bor {K : PySem.W.Frag} {F H : Hp} (l : Le F H) : ∀ {v : List (Key × V)} {m : List (Key × M)} {fp : List Addr}, RpMk K F H v m fp → Rpk K H v (frzk m)
  | _, _, _, .nil => by rw [frzk]; exact .nil
  | _, _, _, .cons h hs => by rw [frzk]; exact .cons (RpM.bor l h) (RpMk.bor l hs)
end
/-- .. made to stand still: the owned addresses go over -/
def add (F H : Hp) (fp : List Addr) : Hp := fun a => if a ∈ fp then H a else F a
theorem add_in {F H : Hp} {fp : List Addr} {a : Addr} (h : a ∈ fp) : add F H fp a = H a := by unfold add; rw [if_pos h]
theorem add_out {F H : Hp} {fp : List Addr} {a : Addr} (h : a ∉ fp) : add F H fp a = F a := by unfold add; rw [if_neg h]
theorem Wd.le_add {F H : Hp} {fp fq : List Addr} (w : Wd F H fp) (h : ∀ a ∈ fq, a ∈ fp) : Le F (add F H fq) := fun a o e => by
  by_cases q : a ∈ fq
  · rw [w.off a (h a q)] at e; cases e
  · rw [add_out q]; exact e
theorem Wd.add_le {F H : Hp} {fp fq : List Addr} (w : Wd F H fp) : Le (add F H fq) H := fun a o e => by
  by_cases q : a ∈ fq
  · rw [add_in q] at e; exact e
  · rw [add_out q] at e; exact w.le a o e
mutual
theorem RpM.still {K : PySem.W.Frag} {F H G : Hp} (l : Le F G) : ∀ {v : V} {m : M} {fp : List Addr}, (∀ a ∈ fp, G a = H a) → RpM K F H v m fp → Rp K G v (frz m)
  | _, _, _, _, .d h => by rw [frz]; exact h.mono l
  | _, _, _, k, .lst h hs => by rw [frz]; exact .lst (.inl (.inl ((k _ List.mem_cons_self).trans h))) (RpMs.still l (fun a ha => k a (List.mem_cons_of_mem _ ha)) hs)
  | _, _, _, k, .dct h _ hs => by rw [frz]; exact .dct ((k _ List.mem_cons_self).trans h) (RpMk.still l (fun a ha => k a (List.mem_cons_of_mem _ ha)) hs)
theorem RpMs.still {K : PySem.W.Frag} {F H G : Hp} (l : Le F G) : ∀ {v : List V} {m : List M} {fp : List Addr}, (∀ a ∈ fp, G a = H a) → RpMs K F H v m fp → Rps K G v (frzs m)
  | _, _, _, _, .nil => by rw [frzs]; exact .nil
  | _, _, _, k, .cons h hs => by rw [frzs]; exact .cons (RpM.still l (fun a ha => k a (List.mem_append_left _ ha)) h) (RpMs.still l (fun a ha => k a (List.mem_append_right _ ha)) hs)
theorem RpMk.still {K : PySem.W.Frag} {F H G : Hp} (l : Le F G) : ∀ {v : List (Key × V)} {m : List (Key × M)} {fp : List Addr}, (∀ a ∈ fp, G a = H a) → RpMk K F H v m fp → Rpk K G v (frzk m)
  | _, _, _, _, .nil => by rw [frzk]; exact .nil
  | _, _, _, k, .cons h hs => by rw [frzk]; exact .cons (RpM.still l (fun a ha => k a (List.mem_append_left _ ha)) h) (RpMk.still l (fun a ha => k a (List.mem_append_right _ ha)) hs)
end
/-- a step that changes nothing but that fq goes over -/
theorem Wd.still {F H : Hp} {fp fq fr : List Addr} (w : Wd F H fp) (h1 : ∀ a ∈ fq, a ∈ fp) (h2 : ∀ a ∈ fr, a ∈ fp) (h3 : fr.Nodup) (h4 : ∀ a ∈ fr, a ∉ fq) : Wd (add F H fq) H fr ∧ Ev F H fp (add F H fq) H fr :=
  ⟨⟨w.add_le, h3, fun a ha => by rw [add_out (h4 a ha)]; exact w.off a (h2 a ha)⟩, ⟨w.le_add h1, fun _ _ e _ => e, fun a ha => .inl (h2 a ha), fun a o e => by
    by_cases q : a ∈ fq
    · exact .inr (.inl (h1 a q))
    · rw [add_out q] at e; exact .inl e⟩⟩
/-- a new object that stands still from the start -/
theorem Wd.new {F H : Hp} {fp : List Addr} {p : Addr} {o : HO} (w : Wd F H fp) (hp : H p = none) (hf : ∀ a ∈ fp, ∃ o, H a = some o) : Wd (upd F p o) (upd H p o) fp ∧ Ev F H fp (upd F p o) (upd H p o) fp := by
  have nF : ∀ a u, F a = some u → a ≠ p := fun a u e => ne_of_none (w.le a u e) hp
  have nf : ∀ a ∈ fp, a ≠ p := fun a ha => by obtain ⟨u, e⟩ := hf a ha; exact ne_of_none e hp
  refine ⟨⟨fun a u e => ?_, w.nd, fun a ha => ?_⟩, ⟨fun a u e => ?_, fun a u e _ => ?_, fun a ha => .inl ha, fun a u e => ?_⟩⟩
  · by_cases q : a = p
    · subst q; rw [upd_same] at e ⊢; exact e
    · rw [upd_ne q] at e ⊢; exact w.le a u e
  · rw [upd_ne (nf a ha)]; exact w.off a ha
  · rw [upd_ne (nF a u e)]; exact e
  · rw [upd_ne (ne_of_none e hp)]; exact e
  · by_cases q : a = p
    · subst q; exact .inr (.inr hp)
    · rw [upd_ne q] at e; exact .inl e
/-- a new object that is owned -/
theorem Wd.newO {F H : Hp} {fp : List Addr} {p : Addr} {o : HO} (w : Wd F H fp) (hp : H p = none) (hf : ∀ a ∈ fp, ∃ o, H a = some o) : Wd F (upd H p o) (p :: fp) ∧ Ev F H fp F (upd H p o) (p :: fp) := by
  have nF : ∀ a u, F a = some u → a ≠ p := fun a u e => ne_of_none (w.le a u e) hp
  have nf : ∀ a ∈ fp, a ≠ p := fun a ha => by obtain ⟨u, e⟩ := hf a ha; exact ne_of_none e hp
  have Fp : F p = none := by
    cases e : F p with
    | none => rfl
    | some u => exact absurd rfl (nF p u e)
  refine ⟨⟨fun a u e => ?_, List.nodup_cons.mpr ⟨fun z => nf p z rfl, w.nd⟩, fun a ha => ?_⟩, ⟨Le.refl _, fun a u e _ => ?_, fun a ha => ?_, fun a u e => .inl e⟩⟩
  · rw [upd_ne (nF a u e)]; exact w.le a u e
  · rcases List.mem_cons.mp ha with rfl | ha
    · exact Fp
    · exact w.off a ha
  · rw [upd_ne (ne_of_none e hp)]; exact e
  · rcases List.mem_cons.mp ha with rfl | ha
    · exact .inr hp
    · exact .inl ha
/-- an owned object is written -/
theorem Wd.put {F H : Hp} {fp : List Addr} {a : Addr} {o : HO} (w : Wd F H fp) (ha : a ∈ fp) : Wd F (upd H a o) fp ∧ Ev F H fp F (upd H a o) fp := by
  refine ⟨⟨fun b u e => ?_, w.nd, w.off⟩, ⟨Le.refl _, fun b u e hb => ?_, fun b hb => .inl hb, fun b u e => .inl e⟩⟩
  · rw [upd_ne (fun z => by rw [z, w.off a ha] at e; cases e)]; exact w.le b u e
  · rw [upd_ne (fun z => hb (by rw [z]; exact ha))]; exact e
end DL
set_option Elab.async false
set_option linter.all false
set_option maxRecDepth 100000
set_option maxHeartbeats 4000000
namespace DL
open PySem PySem.Spec PyProof.Rows L2

/-! ### what a piece of text does: a result with the slots behind it, an exception with them, or nothing that is known -/
inductive R (α : Type) where
  | ok (a : α) (e : Env)
  | err (x : Exc) (e : Env)
  | stuck
def R.bind {α β : Type} (r : R α) (g : α → Env → R β) : R β := match r with
  | .ok a e => g a e
  | .err x e => .err x e
  | .stuck => .stuck
def R.of {α : Type} (o : Option α) (e : Env) : R α := match o with
  | some a => .ok a e
  | none => .stuck
@[simp] theorem R.bind_ok {α β : Type} (a : α) (e : Env) (g : α → Env → R β) : (R.ok a e).bind g = g a e := rfl
@[simp] theorem R.bind_err {α β : Type} (x : Exc) (e : Env) (g : α → Env → R β) : (R.err x e : R α).bind g = .err x e := rfl
@[simp] theorem R.bind_stuck {α β : Type} (g : α → Env → R β) : (R.stuck : R α).bind g = .stuck := rfl
@[simp] theorem R.of_some {α : Type} (a : α) (e : Env) : R.of (some a) e = .ok a e := rfl
@[simp] theorem R.of_none {α : Type} (e : Env) : (R.of none e : R α) = .stuck := rfl

def RpX (K : PySem.W.Frag) (mg : Str → Option Value) (F : Hp) (x : Exc) (cls : Value) (dd : Option Addr) (H : Hp) : Prop :=
  ∃ C, mg x.cls = some (.ref C) ∧ cls = .ref C ∧ (x.fs = [] ∨ ∃ d vs, dd = some d ∧ H d = some (.xd vs) ∧ Paired (fun (p : Str × V) (q : Str × D) => p.1 = q.1 ∧ Rp K F p.2 q.2) vs x.fs)

/-- what is to be shown of a result: rep tells how a value stands for it -/
def Post {α β : Type} (X : Cx) (W : WX) (σ : St) (F H : Hp) (fp : List Addr) (rep : Hp → Hp → β → α → List Addr → Prop) (Q : β → Hp → Prop) : R α → Prop
  | .stuck => False
  | .ok a env' => ∀ (v : β) (F' H' : Hp) (fq fp' : List Addr), Ev F H fp F' H' (fq ++ fp') → Wd F' H' (fq ++ fp') → RpE X.K F' H' env' σ fp' → rep F' H' v a fq → Q v H'
  | .err x env' => ∀ (cls : Value) (dd : Option Addr) (F' H' : Hp) (fp' : List Addr), Ev F H fp F' H' fp' → Wd F' H' fp' → RpE X.K F' H' env' σ fp' → RpX X.K X.mg F' x cls dd H' → W cls dd σ H'

def repV (K : PySem.W.Frag) : Hp → Hp → V → D → List Addr → Prop := fun F _ v d fq => fq = [] ∧ Rp K F v d
def repB (K : PySem.W.Frag) : Hp → Hp → V → D → List Addr → Prop := fun _ H v d fq => fq = [] ∧ Rp K H v d
def repM (K : PySem.W.Frag) : Hp → Hp → V → M → List Addr → Prop := fun F H v m fq => RpM K F H v m fq
def repT : Hp → Hp → Bool → Bool → List Addr → Prop := fun _ _ b a fq => fq = [] ∧ b = a
/-- an argument: data, or a slot handed on -/
inductive Arg where
  | d (x : D)
  | s (i : Nat)
inductive RpA (K : PySem.W.Frag) (F : Hp) (σ : St) : List V → List Arg → Prop
  | nil : RpA K F σ [] []
  | d {v : V} {vs : List V} {x : D} {as : List Arg} : Rp K F v x → RpA K F σ vs as → RpA K F σ (v :: vs) (.d x :: as)
  | s {v : V} {vs : List V} {i : Nat} {as : List Arg} : σ[i]? = some (some v) → RpA K F σ vs as → RpA K F σ (v :: vs) (.s i :: as)
def repA (K : PySem.W.Frag) (σ : St) : Hp → Hp → List V → List Arg → List Addr → Prop := fun F _ vs as fq => fq = [] ∧ RpA K F σ vs as

/-- an expression's value, standing still | read as it lies | owned anew -/
def EV (X : Cx) (W : WX) (e : Expr) (f : Env → R D) : Prop :=
  ∃ t : TE, PE X e t ∧ ∀ env σ F H fp Q, Wd F H fp → RpE X.K F H env σ fp → Post X W σ F H fp (repV X.K) Q (f env) → t σ H Q
def EB (X : Cx) (W : WX) (e : Expr) (f : Env → R D) : Prop :=
  ∃ t : TE, PE X e t ∧ ∀ env σ F H fp Q, Wd F H fp → RpE X.K F H env σ fp → Post X W σ F H fp (repB X.K) Q (f env) → t σ H Q
def EM (X : Cx) (W : WX) (e : Expr) (f : Env → R M) : Prop :=
  ∃ t : TE, PE X e t ∧ ∀ env σ F H fp Q, Wd F H fp → RpE X.K F H env σ fp → Post X W σ F H fp (repM X.K) Q (f env) → t σ H Q
/-- a test; one of a chain of and, or -/
def ET (X : Cx) (W : WX) (e : Expr) (f : Env → R Bool) : Prop :=
  ∃ t : TT, PT X e t ∧ ∀ env σ F H fp Q, Wd F H fp → RpE X.K F H env σ fp → Post X W σ F H fp repT Q (f env) → t σ H Q
def EW (X : Cx) (W : WX) (e : Expr) (f : Env → R Bool) : Prop :=
  ∃ t : TT, PW X e t ∧ ∀ env σ F H fp Q, Wd F H fp → RpE X.K F H env σ fp → Post X W σ F H fp repT Q (f env) → t σ H Q
def EA (X : Cx) (W : WX) (es : List Expr) (f : Env → R (List Arg)) : Prop :=
  ∃ t : TA, PA X es t ∧ ∀ env σ F H fp Q, Wd F H fp → RpE X.K F H env σ fp → Post X W σ F H fp (repA X.K σ) Q (f env) → t σ H Q
def EK (X : Cx) (W : WX) (ks : List Keyword) (f : Env → R (List Arg)) : Prop :=
  ∃ t : TA, PK X ks t ∧ ∀ env σ F H fp Q, Wd F H fp → RpE X.K F H env σ fp → Post X W σ F H fp (repA X.K σ) Q (f env) → t σ H Q

section
variable {X : Cx} {W : WX} {σ : St} {F H F1 H1 : Hp} {fp f1 : List Addr}
theorem Post.shift {α β : Type} {rep : Hp → Hp → β → α → List Addr → Prop} {Q : β → Hp → Prop} (x : Ev F H fp F1 H1 f1) : ∀ {r : R α}, Post X W σ F H fp rep Q r → Post X W σ F1 H1 f1 rep Q r
  | .stuck, h => h
  | .ok a e, h => fun v F' H' fq fp' y w re rp => h v F' H' fq fp' (x.trans y) w re rp
  | .err a e, h => fun c d F' H' fp' y w re rp => h c d F' H' fp' (x.trans y) w re rp
/-- first r, then g -/
theorem Post.seq {α β γ δ : Type} {rep : Hp → Hp → δ → γ → List Addr → Prop} {rep1 : Hp → Hp → β → α → List Addr → Prop} {Q : δ → Hp → Prop} {Q1 : β → Hp → Prop} {r : R α} {g : α → Env → R γ}
    (h : Post X W σ F H fp rep Q (r.bind g))
    (k : ∀ a env1 v F1 H1 fq fp1, Ev F H fp F1 H1 (fq ++ fp1) → Wd F1 H1 (fq ++ fp1) → RpE X.K F1 H1 env1 σ fp1 → rep1 F1 H1 v a fq → Post X W σ F1 H1 (fq ++ fp1) rep Q (g a env1) → Q1 v H1) : Post X W σ F H fp rep1 Q1 r := by
  cases r with
  | stuck => exact h
  | ok a e => exact fun v F' H' fq fp' y w re rp => k a e v F' H' fq fp' y w re rp (Post.shift (r := g a e) y h)
  | err x e => exact h
theorem Post.of {α β : Type} {rep : Hp → Hp → β → α → List Addr → Prop} {Q : β → Hp → Prop} {o : Option α} {env : Env} (h : Post X W σ F H fp rep Q (.of o env)) : ∃ a, o = some a ∧ Post X W σ F H fp rep Q (.ok a env) := by
  cases o with
  | none => exact False.elim h
  | some a => exact ⟨a, rfl, h⟩
end

/-! ### from one to another -/
section
variable {X : Cx} {W : WX} {e : Expr}
theorem eb_of {f : Env → R D} (h : EV X W e f) : EB X W e f := by
  obtain ⟨t, p, k⟩ := h
  refine ⟨t, p, fun env σ F H fp Q w re q => k env σ F H fp Q w re ?_⟩
  cases hf : f env with
  | stuck => rw [hf] at q; exact q
  | err x e => rw [hf] at q; exact q
  | ok d e =>
    rw [hf] at q
    exact fun v F' H' fq fp' y w' re' ⟨e1, r⟩ => q v F' H' fq fp' y w' re' ⟨e1, r.mono w'.le⟩
def fFrz (f : Env → R M) : Env → R D := fun env => (f env).bind fun m e => .ok (frz m) e
theorem ev_em {f : Env → R M} (h : EM X W e f) : EV X W e (fFrz f) := by
  obtain ⟨t, p, k⟩ := h
  refine ⟨t, p, fun env σ F H fp Q w re q => k env σ F H fp Q w re (Post.seq (rep1 := repM X.K) q fun m env1 v F1 H1 fq fp1 y w1 re1 r1 q1 => ?_)⟩
  have nd := List.nodup_append.mp w1.nd
  have off : ∀ a ∈ fp1, a ∉ fq := fun a ha hq => nd.2.2 a hq a ha rfl
  obtain ⟨w2, y2⟩ := w1.still (fq := fq) (fr := fp1) (fun a ha => List.mem_append_left _ ha) (fun a ha => List.mem_append_right _ ha) nd.2.1 off
  exact q1 v (add F1 H1 fq) H1 [] fp1 y2 w2 (re1.mono y2.frz fun _ _ _ e => e) ⟨rfl, r1.still y2.frz fun a ha => add_in ha⟩
def fUp (f : Env → R D) : Env → R M := fun env => (f env).bind fun d e => .ok (.d d) e
theorem em_ev {f : Env → R D} (h : EV X W e f) : EM X W e (fUp f) := by
  obtain ⟨t, p, k⟩ := h
  refine ⟨t, p, fun env σ F H fp Q w re q => k env σ F H fp Q w re (Post.seq (rep1 := repV X.K) q fun d env1 v F1 H1 fq fp1 y w1 re1 r1 q1 => ?_)⟩
  obtain ⟨rfl, r1⟩ := r1
  exact q1 v F1 H1 [] fp1 (Ev.refl _ _ _) w1 re1 (.d r1)
/-- what lets nothing out, in a context that lets something out -/
theorem Post.no {α β : Type} {rep : Hp → Hp → β → α → List Addr → Prop} {Q : β → Hp → Prop} {σ : St} {F H : Hp} {fp : List Addr} {r : R α} (h : Post X W σ F H fp rep Q r) (n : ∀ x e, r ≠ .err x e) : Post X.nox (fun _ _ _ _ => False) σ F H fp rep Q r := by
  cases r with
  | stuck => exact h
  | ok a e => exact h
  | err x e => exact absurd rfl (n x e)
end

/-! ### names and constants -/
def slot (env : Env) (i : Nat) : Option M := (env[i]?).join
theorem RpE.get {K : PySem.W.Frag} {F H : Hp} : ∀ {env : Env} {σ : St} {fp : List Addr} {i : Nat} {m : M}, RpE K F H env σ fp → slot env i = some m → ∃ v fq, σ[i]? = some (some v) ∧ RpM K F H v m fq ∧ ∀ a ∈ fq, a ∈ fp
  | _, _, _, _, _, .nil, e => by simp [slot] at e
  | _, _, _, 0, _, .non h, e => by simp [slot] at e
  | _, _, _, i + 1, m, .non h, e => by
    obtain ⟨v, fq, h1, h2, h3⟩ := RpE.get (i := i) (m := m) h (by simpa [slot] using e)
    exact ⟨v, fq, by simpa using h1, h2, h3⟩
  | _, _, _, 0, _, .som h hs, e => by
    simp [slot] at e
    subst e
    exact ⟨_, _, rfl, h, fun a ha => List.mem_append_left _ ha⟩
  | _, _, _, i + 1, m, .som h hs, e => by
    obtain ⟨v, fq, h1, h2, h3⟩ := RpE.get (i := i) (m := m) hs (by simpa [slot] using e)
    exact ⟨v, fq, by simpa using h1, h2, fun a ha => List.mem_append_right _ (h3 a ha)⟩
section
variable {X : Cx} {W : WX} {pos : Pos}
def fVar (i : Nat) : Env → R D := fun env => match slot env i with
  | some (.d x) => .ok x env
  | _ => .stuck
def fBor (i : Nat) : Env → R D := fun env => match slot env i with
  | some m => .ok (frz m) env
  | none => .stuck
theorem ev_var {i : Nat} {x : Str} (h : PE X (.Name x pos) (tVar i)) : EV X W (.Name x pos) (fVar i) := by
  refine ⟨_, h, fun env σ F H fp Q w re q => ?_⟩
  unfold fVar at q
  split at q
  · rename_i x hs
    obtain ⟨v, fq, h1, h2, _⟩ := re.get hs
    cases h2 with
    | d r => exact ⟨v, h1, q v F H [] fp (Ev.refl _ _ _) w re ⟨rfl, r⟩⟩
  · exact False.elim q
theorem eb_var {i : Nat} {x : Str} (h : PE X (.Name x pos) (tVar i)) : EB X W (.Name x pos) (fBor i) := by
  refine ⟨_, h, fun env σ F H fp Q w re q => ?_⟩
  unfold fBor at q
  split at q
  · rename_i m hs
    obtain ⟨v, fq, h1, h2, _⟩ := re.get hs
    exact ⟨v, h1, q v F H [] fp (Ev.refl _ _ _) w re ⟨rfl, h2.bor w.le⟩⟩
  · exact False.elim q
def fC (d : D) : Env → R D := fun env => .ok d env
theorem ev_const {e : Expr} {v : V} {d : D} (h : PE X e (tC v)) (r : ∀ F, Rp X.K F v d) : EV X W e (fC d) :=
  ⟨_, h, fun env σ F H fp Q w re q => q v F H [] fp (Ev.refl _ _ _) w re ⟨rfl, r F⟩⟩
theorem ev_int {i j} : EV X W (.Constant (.int i) j pos) (fC (.int i)) := ev_const pe_int fun _ => .int i
theorem ev_bl {b j} : EV X W (.Constant (.bool b) j pos) (fC (.bool b)) := ev_const pe_bl fun _ => .bl b
theorem ev_non {j} : EV X W (.Constant .none j pos) (fC .none) := ev_const pe_non fun _ => .non
theorem ev_str {x j} : EV X W (.Constant (.str x) j pos) (fC (.str x)) := ev_const pe_str fun _ => .str x
end

/-! ### the heap grows and nothing changes -/
structure Gr (F H F' H' : Hp) : Prop where
  l1 : Le F F'
  l2 : Le H H'
  l3 : Le F' H'
  new : ∀ a o, F' a = some o → F a = some o ∨ H a = none
theorem Gr.refl {F H : Hp} (l : Le F H) : Gr F H F H := ⟨Le.refl _, Le.refl _, l, fun _ _ e => .inl e⟩
theorem Gr.trans {F H F1 H1 F2 H2 : Hp} (a : Gr F H F1 H1) (b : Gr F1 H1 F2 H2) : Gr F H F2 H2 := ⟨a.l1.trans b.l1, a.l2.trans b.l2, b.l3, fun c o e => by
  rcases b.new c o e with q | q
  · exact a.new c o q
  · refine .inr ?_
    cases h : H c with
    | none => rfl
    | some u => rw [a.l2 c u h] at q; cases q⟩
/-- a new object, standing still -/
theorem Gr.put {F H : Hp} {p : Addr} {o : HO} (l : Le F H) (hp : H p = none) : Gr F H (upd F p o) (upd H p o) := by
  have nF : ∀ a u, F a = some u → a ≠ p := fun a u e => ne_of_none (l a u e) hp
  refine ⟨fun a u e => ?_, fun a u e => ?_, fun a u e => ?_, fun a u e => ?_⟩
  · rw [upd_ne (nF a u e)]; exact e
  · rw [upd_ne (ne_of_none e hp)]; exact e
  · by_cases q : a = p
    · subst q; rw [upd_same] at e ⊢; exact e
    · rw [upd_ne q] at e ⊢; exact l a u e
  · by_cases q : a = p
    · subst q; exact .inr hp
    · rw [upd_ne q] at e; exact .inl e
/-- a new object that is dropped -/
theorem Gr.drop {F H : Hp} {p : Addr} {o : HO} (l : Le F H) (hp : H p = none) : Gr F H F (upd H p o) :=
  ⟨Le.refl _, fun a u e => by rw [upd_ne (ne_of_none e hp)]; exact e, fun a u e => by rw [upd_ne (ne_of_none (l a u e) hp)]; exact l a u e, fun _ _ e => .inl e⟩
theorem Gr.step {F H F' H' : Hp} {fp : List Addr} (w : Wd F H fp) (th : ∀ a ∈ fp, ∃ o, H a = some o) (g : Gr F H F' H') : Wd F' H' fp ∧ Ev F H fp F' H' fp := by
  refine ⟨⟨g.l3, w.nd, fun a ha => ?_⟩, ⟨g.l1, fun a o e _ => g.l2 a o e, fun a ha => .inl ha, fun a o e => (g.new a o e).imp id .inr⟩⟩
  cases e : F' a with
  | none => rfl
  | some o =>
    rcases g.new a o e with q | q
    · rw [w.off a ha] at q; cases q
    · obtain ⟨u, hu⟩ := th a ha
      rw [q] at hu; cases hu
theorem RpE.gr {K : PySem.W.Frag} {F H F' H' : Hp} {env : Env} {σ : St} {fp : List Addr} (g : Gr F H F' H') (re : RpE K F H env σ fp) : RpE K F' H' env σ fp := re.mono g.l1 fun a _ o e => g.l2 a o e
/-- the end of a step that only makes new things -/
theorem Post.gr {X : Cx} {W : WX} {σ : St} {F H F' H' : Hp} {fp : List Addr} {α β : Type} {rep : Hp → Hp → β → α → List Addr → Prop} {Q : β → Hp → Prop} {a : α} {env : Env} {v : β}
    (q : Post X W σ F H fp rep Q (.ok a env)) (w : Wd F H fp) (re : RpE X.K F H env σ fp) (g : Gr F H F' H') (r : rep F' H' v a []) : Q v H' :=
  have z := g.step w re.there
  q v F' H' [] fp z.2 z.1 (re.gr g) r

/-! ### operations on two values, on one -/
/-- op on data: g says what comes -/
def OpD (K : PySem.W.Frag) (r : R2) (g : D → D → Option D) : Prop := ∀ F H x y d e z Q, Le F H → Rp K F x d → Rp K F y e → g d e = some z → (∀ v F' H', Gr F H F' H' → Rp K F' v z → Q v H') → r x y H Q
/-- the second one may be read as it lies -/
def OpB (K : PySem.W.Frag) (r : R2) (g : D → D → Option D) : Prop := ∀ F H x y d e z Q, Le F H → Rp K F x d → Rp K H y e → g d e = some z → (∀ v F' H', Gr F H F' H' → Rp K F' v z → Q v H') → r x y H Q
theorem OpB.toD {K : PySem.W.Frag} {r : R2} {g : D → D → Option D} (h : OpB K r g) : OpD K r g := fun F H x y d e z Q l rx ry => h F H x y d e z Q l rx (ry.mono l)
def UnD (K : PySem.W.Frag) (r : V → Hp → VK → Prop) (g : D → Option D) : Prop := ∀ F H x d z Q, Le F H → Rp K F x d → g d = some z → (∀ v F' H', Gr F H F' H' → Rp K F' v z → Q v H') → r x H Q
def UnB (K : PySem.W.Frag) (r : V → Hp → VK → Prop) (g : D → Option D) : Prop := ∀ F H x d z Q, Le F H → Rp K H x d → g d = some z → (∀ v F' H', Gr F H F' H' → Rp K F' v z → Q v H') → r x H Q
def f2 (g : D → D → Option D) (fa fb : Env → R D) : Env → R D := fun env => (fa env).bind fun a e1 => (fb e1).bind fun b e2 => .of (g a b) e2
def f1 (g : D → Option D) (fa : Env → R D) : Env → R D := fun env => (fa env).bind fun a e1 => .of (g a) e1
section
variable {X : Cx} {W : WX} {pos : Pos} {a b e : Expr} {fa fb : Env → R D}
theorem ev_twoD {r : R2} {g : D → D → Option D} {e : Expr} (ho : OpD X.K r g) (hpe : ∀ ta tb, PE X a ta → PE X b tb → PE X e (tOp r ta tb)) (ha : EV X W a fa) (hb : EV X W b fb) : EV X W e (f2 g fa fb) := by
  obtain ⟨ta, pa, ka⟩ := ha
  obtain ⟨tb, pb, kb⟩ := hb
  refine ⟨_, hpe ta tb pa pb, fun env σ F H fp Q w re q => ?_⟩
  refine ka env σ F H fp _ w re (Post.seq (rep1 := repV X.K) q fun d env1 x F1 H1 fq fp1 y1 w1 re1 r1 q1 => ?_)
  obtain ⟨rfl, r1⟩ := r1
  refine kb env1 σ F1 H1 fp1 _ w1 re1 (Post.seq (rep1 := repV X.K) q1 fun e env2 y F2 H2 fq fp2 y2 w2 re2 r2 q2 => ?_)
  obtain ⟨rfl, r2⟩ := r2
  obtain ⟨z, hz, q3⟩ := q2.of
  exact ho F2 H2 x y d e z Q w2.le (r1.mono y2.frz) r2 hz fun v F' H' g r' => q3.gr w2 re2 g ⟨rfl, r'⟩
theorem ev_two {r : R2} {g : D → D → Option D} {e : Expr} (ho : OpB X.K r g) (hpe : ∀ ta tb, PE X a ta → PE X b tb → PE X e (tOp r ta tb)) (ha : EV X W a fa) (hb : EB X W b fb) : EV X W e (f2 g fa fb) := by
  obtain ⟨ta, pa, ka⟩ := ha
  obtain ⟨tb, pb, kb⟩ := hb
  refine ⟨_, hpe ta tb pa pb, fun env σ F H fp Q w re q => ?_⟩
  refine ka env σ F H fp _ w re (Post.seq (rep1 := repV X.K) q fun d env1 x F1 H1 fq fp1 y1 w1 re1 r1 q1 => ?_)
  obtain ⟨rfl, r1⟩ := r1
  refine kb env1 σ F1 H1 fp1 _ w1 re1 (Post.seq (rep1 := repB X.K) q1 fun e env2 y F2 H2 fq fp2 y2 w2 re2 r2 q2 => ?_)
  obtain ⟨rfl, r2⟩ := r2
  obtain ⟨z, hz, q3⟩ := q2.of
  exact ho F2 H2 x y d e z Q w2.le (r1.mono y2.frz) r2 hz fun v F' H' g r' => q3.gr w2 re2 g ⟨rfl, r'⟩
theorem ev_one {r : V → Hp → VK → Prop} {g : D → Option D} {e : Expr} (ho : UnB X.K r g) (hpe : ∀ ta, PE X a ta → PE X e (tUn r ta)) (ha : EB X W a fa) : EV X W e (f1 g fa) := by
  obtain ⟨ta, pa, ka⟩ := ha
  refine ⟨_, hpe ta pa, fun env σ F H fp Q w re q => ?_⟩
  refine ka env σ F H fp _ w re (Post.seq (rep1 := repB X.K) q fun d env1 x F1 H1 fq fp1 y1 w1 re1 r1 q1 => ?_)
  obtain ⟨rfl, r1⟩ := r1
  obtain ⟨z, hz, q3⟩ := q1.of
  exact ho F1 H1 x d z Q w1.le r1 hz fun v F' H' g r' => q3.gr w1 re1 g ⟨rfl, r'⟩
theorem ev_oneD {r : V → Hp → VK → Prop} {g : D → Option D} {e : Expr} (ho : UnD X.K r g) (hpe : ∀ ta, PE X a ta → PE X e (tUn r ta)) (ha : EV X W a fa) : EV X W e (f1 g fa) := by
  obtain ⟨ta, pa, ka⟩ := ha
  refine ⟨_, hpe ta pa, fun env σ F H fp Q w re q => ?_⟩
  refine ka env σ F H fp _ w re (Post.seq (rep1 := repV X.K) q fun d env1 x F1 H1 fq fp1 y1 w1 re1 r1 q1 => ?_)
  obtain ⟨rfl, r1⟩ := r1
  obtain ⟨z, hz, q3⟩ := q1.of
  exact ho F1 H1 x d z Q w1.le r1 hz fun v F' H' g r' => q3.gr w1 re1 g ⟨rfl, r'⟩
/-- a binary operator, a comparison, a subscript -/
theorem ev_op {op : Operator} {r : R2} {g : D → D → Option D} (hr : OpR X (binaryOp op) r) (ho : OpD X.K r g) (ha : EV X W a fa) (hb : EV X W b fb) : EV X W (.BinOp a op b pos) (f2 g fa fb) :=
  ev_twoD ho (fun _ _ pa pb => pe_op hr pa pb) ha hb
theorem ev_cmp {op : CmpOp} {r : R2} {g : D → D → Option D} (hr : OpR X (compareOp op) r) (ho : OpB X.K r g) (ha : EV X W a fa) (hb : EB X W b fb) (hm : behindInMarks op b = false := by first | exact nomark _ | rfl) : EV X W (.Compare a [op] [b] pos) (f2 g fa fb) :=
  ev_two ho (fun _ _ pa pb => pe_cmpR hr pa pb hm) ha hb
theorem ev_ix {r : R2} {g : D → D → Option D} (hr : IxR X r) (ho : OpD X.K r g) (ha : EV X W a fa) (hb : EV X W b fb) (hs : PlainIx b := by intro _ _; rfl) : EV X W (.Subscript a b pos) (f2 g fa fb) :=
  ev_twoD ho (fun _ _ pa pb => pe_ix hr pa pb hs) ha hb
theorem ev_un {op : UnaryOp} {r : V → Hp → VK → Prop} {g : D → Option D} (hr : UnR X (unaryOp op) r) (ho : UnD X.K r g) (ha : EV X W a fa) : EV X W (.UnaryOp op a pos) (f1 g fa) :=
  ev_oneD ho (fun _ pa => pe_un hr pa) ha

/-! ### tests -/
def bD : D → Option Bool
  | .bool b => some b
  | _ => none
def fB (fa : Env → R D) : Env → R Bool := fun env => (fa env).bind fun d e => .of (bD d) e
theorem bD_inv {d : D} {b : Bool} (h : bD d = some b) : d = .bool b := by
  cases d <;> first | (simp only [bD, Option.some.injEq] at h; rw [h]) | (simp only [bD] at h; cases h)
theorem post_bool {σ : St} {F H : Hp} {fp : List Addr} {Q : Bool → Hp → Prop} {r : R D} (q : Post X W σ F H fp repT Q (r.bind fun d e => .of (bD d) e)) : Post X W σ F H fp (repB X.K) (fun x H1 => ∃ c, x = .bl c ∧ Q c H1) r :=
  Post.seq q fun d env1 v F1 H1 fq fp1 y w1 re1 r1 q1 => by
    obtain ⟨rfl, r1⟩ := r1
    obtain ⟨b, hb, q2⟩ := q1.of
    obtain rfl := bD_inv hb
    cases r1
    exact ⟨b, rfl, q2 b F1 H1 [] fp1 (Ev.refl _ _ _) w1 re1 ⟨rfl, rfl⟩⟩
/-- a comparison as a test -/
theorem et_cmp {op : CmpOp} {r : R2} {g : D → D → Option D} (hr : OpR X (compareOp op) r) (ho : OpB X.K r g) (ha : EV X W a fa) (hb : EB X W b fb) (hm : behindInMarks op b = false := by first | exact nomark _ | rfl) : ET X W (.Compare a [op] [b] pos) (fB (f2 g fa fb)) := by
  obtain ⟨ta, pa, ka⟩ := ha
  obtain ⟨tb, pb, kb⟩ := hb
  refine ⟨_, pt_cmpR hr pa pb hm, fun env σ F H fp Q w re q => ?_⟩
  have q := post_bool q
  refine ka env σ F H fp _ w re (Post.seq (rep1 := repV X.K) q fun d env1 x F1 H1 fq fp1 y1 w1 re1 r1 q1 => ?_)
  obtain ⟨rfl, r1⟩ := r1
  refine kb env1 σ F1 H1 fp1 _ w1 re1 (Post.seq (rep1 := repB X.K) q1 fun e env2 y F2 H2 fq fp2 y2 w2 re2 r2 q2 => ?_)
  obtain ⟨rfl, r2⟩ := r2
  obtain ⟨z, hz, q3⟩ := q2.of
  exact ho F2 H2 x y d e z _ w2.le (r1.mono y2.frz) r2 hz fun v F' H' g r' => q3.gr w2 re2 g ⟨rfl, r'.mono g.l3⟩
/-- an expression that is True or False, as a test -/
theorem et_val (h : EB X W e fa) (he : ∀ whole, isTrue e X.env whole = (do let v ← whole; standAt e.pos; holding [v] (truthy v)) := by intro _; rfl) : ET X W e (fB fa) := by
  obtain ⟨t, p, k⟩ := h
  exact ⟨_, pt_val p he, fun env σ F H fp Q w re q => k env σ F H fp _ w re (post_bool q)⟩
/-- an expression of any kind as a test -/
def truD : D → Option Bool
  | .none => some false
  | .bool b => some b
  | .int i => some (i != 0)
  | .str x => if x.length ≤ sizeLine then some (x.length != 0) else none
  | .list ds => some (!ds.isEmpty)
  | .tuple ds => some (!ds.isEmpty)
  | .dict ds => some (!ds.isEmpty)
def fTru (fa : Env → R D) : Env → R Bool := fun env => (fa env).bind fun d e => .of (truD d) e
def fAnd (fa fb : Env → R Bool) : Env → R Bool := fun env => (fa env).bind fun b e => if b = true then fb e else .ok false e
def fOr (fa fb : Env → R Bool) : Env → R Bool := fun env => (fa env).bind fun b e => if b = true then .ok true e else fb e
def fNot (fa : Env → R Bool) : Env → R Bool := fun env => (fa env).bind fun b e => .ok (!b) e
theorem et_w {f : Env → R Bool} (h : EW X W e f) : ET X W e f := by
  obtain ⟨t, p, k⟩ := h
  exact ⟨t, p.pt, k⟩
theorem ew_and1 {f : Env → R Bool} (h : ET X W a f) : EW X W (.BoolOp .And [a] pos) f := by
  obtain ⟨t, p, k⟩ := h
  exact ⟨_, pw_and1 p, k⟩
theorem ew_or1 {f : Env → R Bool} (h : ET X W a f) : EW X W (.BoolOp .Or [a] pos) f := by
  obtain ⟨t, p, k⟩ := h
  exact ⟨_, pw_or1 p, k⟩
variable {rest : List Expr} {fa' fb' : Env → R Bool}
theorem ew_and (ha : ET X W a fa') (hb : EW X W (.BoolOp .And (b :: rest) pos) fb') : EW X W (.BoolOp .And (a :: b :: rest) pos) (fAnd fa' fb') := by
  obtain ⟨ta, pa, ka⟩ := ha
  obtain ⟨tb, pb, kb⟩ := hb
  refine ⟨_, pw_and pa pb, fun env σ F H fp Q w re q => ka env σ F H fp _ w re (Post.seq (rep1 := repT) q fun c env1 v F1 H1 fq fp1 y w1 re1 r1 q1 => ?_)⟩
  obtain ⟨rfl, rfl⟩ := r1
  cases v with
  | true => rw [if_pos rfl] at q1 ⊢; exact kb env1 σ F1 H1 fp1 Q w1 re1 q1
  | false => rw [if_neg Bool.false_ne_true] at q1 ⊢; exact q1 false F1 H1 [] fp1 (Ev.refl _ _ _) w1 re1 ⟨rfl, rfl⟩
theorem ew_or (ha : ET X W a fa') (hb : EW X W (.BoolOp .Or (b :: rest) pos) fb') : EW X W (.BoolOp .Or (a :: b :: rest) pos) (fOr fa' fb') := by
  obtain ⟨ta, pa, ka⟩ := ha
  obtain ⟨tb, pb, kb⟩ := hb
  refine ⟨_, pw_or pa pb, fun env σ F H fp Q w re q => ka env σ F H fp _ w re (Post.seq (rep1 := repT) q fun c env1 v F1 H1 fq fp1 y w1 re1 r1 q1 => ?_)⟩
  obtain ⟨rfl, rfl⟩ := r1
  cases v with
  | false => rw [if_neg Bool.false_ne_true] at q1 ⊢; exact kb env1 σ F1 H1 fp1 Q w1 re1 q1
  | true => rw [if_pos rfl] at q1 ⊢; exact q1 true F1 H1 [] fp1 (Ev.refl _ _ _) w1 re1 ⟨rfl, rfl⟩
theorem et_not (ha : ET X W a fa') : ET X W (.UnaryOp .Not a pos) (fNot fa') := by
  obtain ⟨ta, pa, ka⟩ := ha
  refine ⟨_, pt_not pa, fun env σ F H fp Q w re q => ka env σ F H fp _ w re (Post.seq (rep1 := repT) q fun c env1 v F1 H1 fq fp1 y w1 re1 r1 q1 => ?_)⟩
  obtain ⟨rfl, rfl⟩ := r1
  exact q1 (!v) F1 H1 [] fp1 (Ev.refl _ _ _) w1 re1 ⟨rfl, rfl⟩
/-- and, or, not as values; a if t else b -/
def fOb (f : Env → R Bool) : Env → R D := fun env => (f env).bind fun b e => .ok (.bool b) e
def fIf {α : Type} (t : Env → R Bool) (f g : Env → R α) : Env → R α := fun env => (t env).bind fun b e => if b = true then f e else g e
theorem ev_ifx {t : Expr} {ft : Env → R Bool} (ht : ET X W t ft) (ha : EV X W a fa) (hb : EV X W b fb) : EV X W (.IfExp t a b pos) (fIf ft fa fb) := by
  obtain ⟨tt, pt, kt⟩ := ht
  obtain ⟨ta, pa, ka⟩ := ha
  obtain ⟨tb, pb, kb⟩ := hb
  refine ⟨_, pe_ifExp pt pa pb, fun env σ F H fp Q w re q => kt env σ F H fp _ w re (Post.seq (rep1 := repT) q fun c env1 v F1 H1 fq fp1 y w1 re1 r1 q1 => ?_)⟩
  obtain ⟨rfl, rfl⟩ := r1
  cases v with
  | true => rw [if_pos rfl] at q1 ⊢; exact ka env1 σ F1 H1 fp1 Q w1 re1 q1
  | false => rw [if_neg Bool.false_ne_true] at q1 ⊢; exact kb env1 σ F1 H1 fp1 Q w1 re1 q1
theorem em_ifx {t : Expr} {ft : Env → R Bool} {ga gb : Env → R M} (ht : ET X W t ft) (ha : EM X W a ga) (hb : EM X W b gb) : EM X W (.IfExp t a b pos) (fIf ft ga gb) := by
  obtain ⟨tt, pt, kt⟩ := ht
  obtain ⟨ta, pa, ka⟩ := ha
  obtain ⟨tb, pb, kb⟩ := hb
  refine ⟨_, pe_ifExp pt pa pb, fun env σ F H fp Q w re q => kt env σ F H fp _ w re (Post.seq (rep1 := repT) q fun c env1 v F1 H1 fq fp1 y w1 re1 r1 q1 => ?_)⟩
  obtain ⟨rfl, rfl⟩ := r1
  cases v with
  | true => rw [if_pos rfl] at q1 ⊢; exact ka env1 σ F1 H1 fp1 Q w1 re1 q1
  | false => rw [if_neg Bool.false_ne_true] at q1 ⊢; exact kb env1 σ F1 H1 fp1 Q w1 re1 q1

/-! ### arguments, displays -/
def fNilA : Env → R (List Arg) := fun env => .ok [] env
def fConsA (fa : Env → R D) (fr : Env → R (List Arg)) : Env → R (List Arg) := fun env => (fa env).bind fun d e1 => (fr e1).bind fun as e2 => .ok (.d d :: as) e2
def fSlotA (i : Nat) (fr : Env → R (List Arg)) : Env → R (List Arg) := fun env => match slot env i with
  | some _ => (fr env).bind fun as e2 => .ok (.s i :: as) e2
  | none => .stuck
theorem ea_nil : EA X W [] fNilA := ⟨_, pa_nil, fun env σ F H fp Q w re q => q [] F H [] fp (Ev.refl _ _ _) w re ⟨rfl, .nil⟩⟩
variable {es : List Expr} {fr : Env → R (List Arg)}
theorem ea_cons (ha : EV X W a fa) (hr : EA X W es fr) (hs : starEach (a :: es) X.env = (false, eval a X.env) :: starEach es X.env := by rfl) : EA X W (a :: es) (fConsA fa fr) := by
  obtain ⟨ta, pa, ka⟩ := ha
  obtain ⟨tr, pr, kr⟩ := hr
  refine ⟨_, pa_cons pa pr hs, fun env σ F H fp Q w re q => ?_⟩
  refine ka env σ F H fp _ w re (Post.seq (rep1 := repV X.K) q fun d env1 x F1 H1 fq fp1 y1 w1 re1 r1 q1 => ?_)
  obtain ⟨rfl, r1⟩ := r1
  refine kr env1 σ F1 H1 fp1 _ w1 re1 (Post.seq (rep1 := repA X.K σ) q1 fun as env2 vs F2 H2 fq fp2 y2 w2 re2 r2 q2 => ?_)
  obtain ⟨rfl, r2⟩ := r2
  exact q2 (x :: vs) F2 H2 [] fp2 (Ev.refl _ _ _) w2 re2 ⟨rfl, .d (r1.mono y2.frz) r2⟩
theorem ea_slot {i : Nat} {x : Str} {p : Pos} (ha : PE X (.Name x p) (tVar i)) (hr : EA X W es fr) (hs : starEach (.Name x p :: es) X.env = (false, eval (.Name x p) X.env) :: starEach es X.env := by rfl) : EA X W (.Name x p :: es) (fSlotA i fr) := by
  obtain ⟨tr, pr, kr⟩ := hr
  refine ⟨_, pa_cons ha pr hs, fun env σ F H fp Q w re q => ?_⟩
  unfold fSlotA at q
  split at q
  · rename_i m hm
    obtain ⟨v, fq, h1, h2, _⟩ := re.get hm
    refine ⟨v, h1, kr env σ F H fp _ w re (Post.seq (rep1 := repA X.K σ) q fun as env2 vs F2 H2 fq fp2 y2 w2 re2 r2 q2 => ?_)⟩
    obtain ⟨rfl, r2⟩ := r2
    exact q2 (v :: vs) F2 H2 [] fp2 (Ev.refl _ _ _) w2 re2 ⟨rfl, .s h1 r2⟩
  · exact False.elim q
theorem ek_nil : EK X W [] fNilA := ⟨_, pk_nil, fun env σ F H fp Q w re q => q [] F H [] fp (Ev.refl _ _ _) w re ⟨rfl, .nil⟩⟩
theorem ek_cons {kws : List Keyword} {nm : Option Str} {kpos : Pos} (ha : EV X W a fa) (hr : EK X W kws fr) : EK X W (⟨nm, a, kpos⟩ :: kws) (fConsA fa fr) := by
  obtain ⟨ta, pa, ka⟩ := ha
  obtain ⟨tr, pr, kr⟩ := hr
  refine ⟨_, pk_cons pa pr, fun env σ F H fp Q w re q => ?_⟩
  refine ka env σ F H fp _ w re (Post.seq (rep1 := repV X.K) q fun d env1 x F1 H1 fq fp1 y1 w1 re1 r1 q1 => ?_)
  obtain ⟨rfl, r1⟩ := r1
  refine kr env1 σ F1 H1 fp1 _ w1 re1 (Post.seq (rep1 := repA X.K σ) q1 fun as env2 vs F2 H2 fq fp2 y2 w2 re2 r2 q2 => ?_)
  obtain ⟨rfl, r2⟩ := r2
  exact q2 (x :: vs) F2 H2 [] fp2 (Ev.refl _ _ _) w2 re2 ⟨rfl, .d (r1.mono y2.frz) r2⟩
/-- arguments that are all data -/
def argD : List Arg → Option (List D)
  | [] => some []
  | .d x :: r => (argD r).map (x :: ·)
  | .s _ :: _ => none
theorem RpA.data {K : PySem.W.Frag} {F : Hp} {σ : St} : ∀ {as : List Arg} {vs : List V} {ds : List D}, RpA K F σ vs as → argD as = some ds → Rps K F vs ds
  | [], _, _, h, e => by
    cases h
    simp only [argD, Option.some.injEq] at e
    subst e
    exact .nil
  | .d x :: r, _, _, h, e => by
    cases h with
    | d r1 rs =>
      simp only [argD, Option.map_eq_some_iff] at e
      obtain ⟨ds, e1, rfl⟩ := e
      exact .cons r1 (RpA.data rs e1)
  | .s i :: r, _, _, h, e => by simp [argD] at e
/-- (a, b, ..), [a, b, ..] -/
def fTup (fr : Env → R (List Arg)) : Env → R D := fun env => (fr env).bind fun as e => .of ((argD as).bind fun ds => if ds.length ≤ sizeLine then some (.tuple ds) else none) e
theorem ev_tup {k : Nat} (h : EA X W es fr) : EV X W (.Tuple es k pos) (fTup fr) := by
  obtain ⟨t, p, kk⟩ := h
  refine ⟨_, pe_tup p, fun env σ F H fp Q w re q => kk env σ F H fp _ w re (Post.seq (rep1 := repA X.K σ) q fun as env1 vs F1 H1 fq fp1 y w1 re1 r1 q1 => ?_)⟩
  obtain ⟨rfl, r1⟩ := r1
  obtain ⟨z, hz, q2⟩ := q1.of
  obtain ⟨ds, h1, h2⟩ := Option.bind_eq_some_iff.mp hz
  by_cases hl : ds.length ≤ sizeLine
  · rw [if_pos hl, Option.some.injEq] at h2
    subst h2
    have rs := r1.data h1
    refine ⟨by rw [rs.length]; exact hl, fun p hp => ?_⟩
    have g : Gr F1 H1 (upd F1 p (.tup vs)) (upd H1 p (.tup vs)) := Gr.put w1.le hp
    exact q2.gr w1 re1 g ⟨rfl, .tup (.inl (.inl upd_same)) (rs.mono g.l1)⟩
  · rw [if_neg hl] at h2; cases h2
def fLst (fr : Env → R (List Arg)) : Env → R D := fun env => (fr env).bind fun as e => .of ((argD as).bind fun ds => if ds.length ≤ sizeLine then some (.list ds) else none) e
theorem ev_lst (h : EA X W es fr) : EV X W (.List es pos) (fLst fr) := by
  obtain ⟨t, p, kk⟩ := h
  refine ⟨_, pe_lst p, fun env σ F H fp Q w re q => kk env σ F H fp _ w re (Post.seq (rep1 := repA X.K σ) q fun as env1 vs F1 H1 fq fp1 y w1 re1 r1 q1 => ?_)⟩
  obtain ⟨rfl, r1⟩ := r1
  obtain ⟨z, hz, q2⟩ := q1.of
  obtain ⟨ds, h1, h2⟩ := Option.bind_eq_some_iff.mp hz
  by_cases hl : ds.length ≤ sizeLine
  · rw [if_pos hl, Option.some.injEq] at h2
    subst h2
    have rs := r1.data h1
    refine ⟨by rw [rs.length]; exact hl, fun p hp => ?_⟩
    have g : Gr F1 H1 (upd F1 p (.lst vs)) (upd H1 p (.lst vs)) := Gr.put w1.le hp
    exact q2.gr w1 re1 g ⟨rfl, .lst (.inl (.inl upd_same)) (rs.mono g.l1)⟩
  · rw [if_neg hl] at h2; cases h2
theorem RpMs.ofData {K : PySem.W.Frag} {F H : Hp} : ∀ {vs : List V} {ds : List D}, Rps K F vs ds → RpMs K F H vs (ds.map .d) []
  | _, _, .nil => .nil
  | _, _, .cons h hs => by
    rw [List.map_cons]
    exact .cons (f1 := []) (f2 := []) (.d h) (RpMs.ofData hs)
/-- a list of data, owned -/
def fLstM (fr : Env → R (List Arg)) : Env → R M := fun env => (fr env).bind fun as e => .of ((argD as).bind fun ds => if ds.length ≤ sizeLine then some (.lst (ds.map .d)) else none) e
theorem em_lst (h : EA X W es fr) : EM X W (.List es pos) (fLstM fr) := by
  obtain ⟨t, p, kk⟩ := h
  refine ⟨_, pe_lst p, fun env σ F H fp Q w re q => kk env σ F H fp _ w re (Post.seq (rep1 := repA X.K σ) q fun as env1 vs F1 H1 fq fp1 y w1 re1 r1 q1 => ?_)⟩
  obtain ⟨rfl, r1⟩ := r1
  obtain ⟨z, hz, q2⟩ := q1.of
  obtain ⟨ds, h1, h2⟩ := Option.bind_eq_some_iff.mp hz
  by_cases hl : ds.length ≤ sizeLine
  · rw [if_pos hl, Option.some.injEq] at h2
    subst h2
    have rs := r1.data h1
    refine ⟨by rw [rs.length]; exact hl, fun p hp => ?_⟩
    obtain ⟨w2, y2⟩ := w1.newO (o := .lst vs) hp re1.there
    exact q2 (.ref p) F1 (upd H1 p (.lst vs)) [p] fp1 y2 w2 (re1.mono (Le.refl _) fun a ha o e => by
      rw [upd_ne (ne_of_none e hp)]; exact e) (.lst upd_same (RpMs.ofData rs))
  · rw [if_neg hl] at h2; cases h2
end
end DL
set_option Elab.async false
set_option linter.all false
set_option maxRecDepth 100000
set_option maxHeartbeats 4000000
namespace DL
open PySem PySem.Spec PyProof.Rows L2

/-! ### statements -/
inductive Fl where
  | nx | bk | ct
  | rt (m : M)
/-- the slots outside the list are as they were -/
def Agree (asg : List Nat) (σ σ' : St) : Prop := σ'.length = σ.length ∧ ∀ j, j ∉ asg → σ'[j]? = σ[j]?
theorem Agree.refl (asg : List Nat) (σ : St) : Agree asg σ σ := ⟨rfl, fun _ _ => rfl⟩
theorem Agree.trans {asg : List Nat} {a b c : St} (x : Agree asg a b) (y : Agree asg b c) : Agree asg a c := ⟨y.1.trans x.1, fun j h => (y.2 j h).trans (x.2 j h)⟩
theorem Agree.mono {a1 a2 : List Nat} {a b : St} (x : Agree a1 a b) (h : ∀ j ∈ a1, j ∈ a2) : Agree a2 a b := ⟨x.1, fun j hj => x.2 j fun z => hj (h j z)⟩
theorem Agree.set (asg : List Nat) (σ : St) (i : Nat) (v : Option V) (h : i ∈ asg) : Agree asg σ (σ.set i v) := ⟨List.length_set, fun j hj => List.getElem?_set_ne fun z => hj (by rw [← z]; exact h)⟩

def PostS (X : Cx) (W : WX) (σ : St) (F H : Hp) (fp : List Addr) (asg : List Nat) (D : Ends) : R Fl → Prop
  | .stuck => False
  | .ok .nx env' => ∀ (σ' : St) (F' H' : Hp) (fp' : List Addr), Ev F H fp F' H' fp' → Wd F' H' fp' → RpE X.K F' H' env' σ' fp' → Agree asg σ σ' → D.nx σ' H'
  | .ok .bk env' => ∀ (σ' : St) (F' H' : Hp) (fp' : List Addr), Ev F H fp F' H' fp' → Wd F' H' fp' → RpE X.K F' H' env' σ' fp' → Agree asg σ σ' → D.bk σ' H'
  | .ok .ct env' => ∀ (σ' : St) (F' H' : Hp) (fp' : List Addr), Ev F H fp F' H' fp' → Wd F' H' fp' → RpE X.K F' H' env' σ' fp' → Agree asg σ σ' → D.ct σ' H'
  | .ok (.rt m) env' => ∀ (v : V) (σ' : St) (F' H' : Hp) (fq fp' : List Addr), Ev F H fp F' H' (fq ++ fp') → Wd F' H' (fq ++ fp') → RpE X.K F' H' env' σ' fp' → RpM X.K F' H' v m fq → Agree asg σ σ' → D.rt v H'
  | .err x env' => ∀ (cls : Value) (dd : Option Addr) (σ' : St) (F' H' : Hp) (fp' : List Addr), Ev F H fp F' H' fp' → Wd F' H' fp' → RpE X.K F' H' env' σ' fp' → RpX X.K X.mg F' x cls dd H' → Agree asg σ σ' → W cls dd σ' H'
def DS (X : Cx) (W : WX) (st : Stmt) (asg : List Nat) (f : Env → R Fl) : Prop :=
  ∃ t : TS, PS X st t ∧ ∀ env σ F H fp D, Wd F H fp → RpE X.K F H env σ fp → PostS X W σ F H fp asg D (f env) → t D σ H
def DSs (X : Cx) (W : WX) (st : List Stmt) (asg : List Nat) (f : Env → R Fl) : Prop :=
  ∃ t : TS, PSs X st t ∧ ∀ env σ F H fp D, Wd F H fp → RpE X.K F H env σ fp → PostS X W σ F H fp asg D (f env) → t D σ H

section
variable {X : Cx} {W : WX} {σ σ1 : St} {F H F1 H1 : Hp} {fp f1 : List Addr} {asg : List Nat} {D : Ends}
theorem PostS.shift (x : Ev F H fp F1 H1 f1) (ag : Agree asg σ σ1) : ∀ {r : R Fl}, PostS X W σ F H fp asg D r → PostS X W σ1 F1 H1 f1 asg D r
  | .stuck, h => h
  | .ok .nx _, h => fun σ' F' H' fp' y w re a => h σ' F' H' fp' (x.trans y) w re (ag.trans a)
  | .ok .bk _, h => fun σ' F' H' fp' y w re a => h σ' F' H' fp' (x.trans y) w re (ag.trans a)
  | .ok .ct _, h => fun σ' F' H' fp' y w re a => h σ' F' H' fp' (x.trans y) w re (ag.trans a)
  | .ok (.rt _) _, h => fun v σ' F' H' fq fp' y w re rm a => h v σ' F' H' fq fp' (x.trans y) w re rm (ag.trans a)
  | .err _ _, h => fun c d σ' F' H' fp' y w re rx a => h c d σ' F' H' fp' (x.trans y) w re rx (ag.trans a)
/-- first an expression's r, then g -/
theorem PostS.seqE {α β : Type} {rep1 : Hp → Hp → β → α → List Addr → Prop} {Q1 : β → Hp → Prop} {r : R α} {g : α → Env → R Fl}
    (h : PostS X W σ F H fp asg D (r.bind g))
    (k : ∀ a env1 v F1 H1 fq fp1, Ev F H fp F1 H1 (fq ++ fp1) → Wd F1 H1 (fq ++ fp1) → RpE X.K F1 H1 env1 σ fp1 → rep1 F1 H1 v a fq → PostS X W σ F1 H1 (fq ++ fp1) asg D (g a env1) → Q1 v H1) : Post X W σ F H fp rep1 Q1 r := by
  cases r with
  | stuck => exact h
  | ok a e => exact fun v F' H' fq fp' y w re rp => k a e v F' H' fq fp' y w re rp (PostS.shift y (Agree.refl _ _) h)
  | err x e => exact fun c d F' H' fp' y w re rx => h c d σ F' H' fp' y w re rx (Agree.refl _ _)
/-- first a statement's r; what does not go on is as the whole -/
def thenF (g : Env → R Fl) : Fl → Env → R Fl
  | .nx, e => g e
  | .bk, e => .ok .bk e
  | .ct, e => .ok .ct e
  | .rt m, e => .ok (.rt m) e
theorem PostS.seqS {a1 : List Nat} (ha : ∀ j ∈ a1, j ∈ asg) {N : St → Hp → Prop} {r : R Fl} {g : Env → R Fl} (h : PostS X W σ F H fp asg D (r.bind (thenF g)))
    (k : ∀ env1 σ1 F1 H1 fp1, Ev F H fp F1 H1 fp1 → Wd F1 H1 fp1 → RpE X.K F1 H1 env1 σ1 fp1 → Agree a1 σ σ1 → PostS X W σ1 F1 H1 fp1 asg D (g env1) → N σ1 H1) : PostS X W σ F H fp a1 { D with nx := N } r := by
  cases r with
  | stuck => exact h
  | err x e => exact fun c d σ' F' H' fp' y w re rx a => h c d σ' F' H' fp' y w re rx (a.mono ha)
  | ok fl e =>
    cases fl with
    | nx => exact fun σ' F' H' fp' y w re a => k e σ' F' H' fp' y w re a (PostS.shift (r := g e) y (a.mono ha) h)
    | bk => exact fun σ' F' H' fp' y w re a => h σ' F' H' fp' y w re (a.mono ha)
    | ct => exact fun σ' F' H' fp' y w re a => h σ' F' H' fp' y w re (a.mono ha)
    | rt m => exact fun v σ' F' H' fq fp' y w re rm a => h v σ' F' H' fq fp' y w re rm (a.mono ha)
theorem PostS.wid {a1 : List Nat} (ha : ∀ j ∈ a1, j ∈ asg) {r : R Fl} (h : PostS X W σ F H fp asg D r) : PostS X W σ F H fp a1 D r := by
  cases r with
  | stuck => exact h
  | err x e => exact fun c d σ' F' H' fp' y w re rx a => h c d σ' F' H' fp' y w re rx (a.mono ha)
  | ok fl e =>
    cases fl with
    | nx => exact fun σ' F' H' fp' y w re a => h σ' F' H' fp' y w re (a.mono ha)
    | bk => exact fun σ' F' H' fp' y w re a => h σ' F' H' fp' y w re (a.mono ha)
    | ct => exact fun σ' F' H' fp' y w re a => h σ' F' H' fp' y w re (a.mono ha)
    | rt m => exact fun v σ' F' H' fq fp' y w re rm a => h v σ' F' H' fq fp' y w re rm (a.mono ha)
end

/-! ### blocks -/
def fNx : Env → R Fl := fun env => .ok .nx env
def fSeq (f g : Env → R Fl) : Env → R Fl := fun env => (f env).bind (thenF g)
section
variable {X : Cx} {W : WX} {st : Stmt} {sts rest : List Stmt} {f g : Env → R Fl} {a1 a2 : List Nat} {pos : Pos} {e : Expr}
theorem dss_nil : DSs X W [] [] fNx := ⟨_, pss_nil, fun env σ F H fp D w re q => q σ F H fp (Ev.refl _ _ _) w re (Agree.refl _ _)⟩
theorem dss_cons (h1 : DS X W st a1 f) (h2 : DSs X W rest a2 g) : DSs X W (st :: rest) (a1 ++ a2) (fSeq f g) := by
  obtain ⟨t1, p1, k1⟩ := h1
  obtain ⟨t2, p2, k2⟩ := h2
  refine ⟨_, pss_cons p1 p2, fun env σ F H fp D w re q => ?_⟩
  exact k1 env σ F H fp { D with nx := t2 D } w re (PostS.seqS (fun j hj => List.mem_append_left _ hj) q fun env1 σ1 F1 H1 fp1 y w1 re1 ag q1 => k2 env1 σ1 F1 H1 fp1 D w1 re1 (q1.wid fun j hj => List.mem_append_right _ hj))
theorem dss_one (h1 : DS X W st a1 f) : DSs X W [st] a1 f := by
  obtain ⟨t1, p1, k1⟩ := h1
  exact ⟨_, pss_one p1, k1⟩
/-- ahead of a statement: a slot's things stand still from here on -/
def setE (env : Env) (i : Nat) (m : Option M) : Env := env.set i m
def still (env : Env) (i : Nat) : Env := match slot env i with
  | some m => env.set i (some (.d (frz m)))
  | none => env
theorem RpE.sub_set {K : PySem.W.Frag} {F H : Hp} : ∀ {env : Env} {σ : St} {fp : List Addr} {i : Nat} {v : V} {d : D}, RpE K F H env σ fp → Rp K F v d → ∃ fp', RpE K F H (env.set i (some (.d d))) (σ.set i (some v)) fp' ∧ fp'.Sublist fp
  | _, _, _, _, _, _, .nil, _ => ⟨[], by simpa using RpE.nil, List.Sublist.refl _⟩
  | _, _, _, 0, _, _, .non h, r => ⟨_, RpE.som (f1 := []) (.d r) h, List.Sublist.refl _⟩
  | _, _, _, 0, _, _, .som (f1 := f1) (f2 := f2) _ h, r => ⟨f2, RpE.som (f1 := []) (.d r) h, List.sublist_append_right _ _⟩
  | _, _, _, i + 1, _, _, .non h, r => by
    obtain ⟨fp', h1, h2⟩ := RpE.sub_set (i := i) h r
    exact ⟨fp', .non h1, h2⟩
  | _, _, _, i + 1, _, _, .som (f1 := f1) (f2 := f2) hm h, r => by
    obtain ⟨fp', h1, h2⟩ := RpE.sub_set (i := i) h r
    exact ⟨f1 ++ fp', .som hm h1, h2.append_left _⟩
/-- a slot taken out -/
theorem RpE.take {K : PySem.W.Frag} {F H : Hp} : ∀ {env : Env} {σ : St} {fp : List Addr} {i : Nat} {m : M}, RpE K F H env σ fp → slot env i = some m →
    ∃ v fq fr, σ[i]? = some (some v) ∧ RpM K F H v m fq ∧ RpE K F H (env.set i none) σ fr ∧ (fq ++ fr).Perm fp
  | _, _, _, _, _, .nil, e => by simp [slot] at e
  | _, _, _, 0, _, .non h, e => by simp [slot] at e
  | _, _, _, i + 1, m, .non h, e => by
    obtain ⟨v, fq, fr, h1, h2, h3, h4⟩ := RpE.take (i := i) (m := m) h (by simpa [slot] using e)
    exact ⟨v, fq, fr, by simpa using h1, h2, .non h3, h4⟩
  | _, _, _, 0, _, .som (f1 := f1) (f2 := f2) h hs, e => by
    simp [slot] at e
    subst e
    exact ⟨_, f1, f2, rfl, h, .non hs, List.Perm.refl _⟩
  | _, _, _, i + 1, m, .som (f1 := f1) (f2 := f2) h hs, e => by
    obtain ⟨v, fq, fr, h1, h2, h3, h4⟩ := RpE.take (i := i) (m := m) hs (by simpa [slot] using e)
    refine ⟨v, fq, f1 ++ fr, by simpa using h1, h2, .som h h3, ?_⟩
    refine List.Perm.trans ?_ (List.Perm.append_left f1 h4)
    rw [← List.append_assoc, ← List.append_assoc]
    exact List.Perm.append_right fr List.perm_append_comm
/-- and put back -/
theorem RpE.put {K : PySem.W.Frag} {F H : Hp} : ∀ {env : Env} {σ : St} {fr fq : List Addr} {i : Nat} {m : M} {v : V}, RpE K F H env σ fr → slot env i = none → σ[i]? = some (some v) → RpM K F H v m fq →
    ∃ fp, RpE K F H (env.set i (some m)) σ fp ∧ fp.Perm (fq ++ fr)
  | _, _, _, _, _, _, _, .nil, _, e, _ => by simp at e
  | _, _, _, _, 0, _, _, .non h, _, e, r => by
    simp at e
    subst e
    exact ⟨_, .som r h, List.Perm.refl _⟩
  | _, _, _, _, 0, _, _, .som h hs, n, e, r => by simp [slot] at n
  | _, _, _, _, i + 1, _, _, .non h, n, e, r => by
    obtain ⟨fp, h1, h2⟩ := RpE.put (i := i) h (by simpa [slot] using n) (by simpa using e) r
    exact ⟨fp, .non h1, h2⟩
  | _, _, _, fq, i + 1, _, _, .som (f1 := f1) (f2 := f2) hm h, n, e, r => by
    obtain ⟨fp, h1, h2⟩ := RpE.put (i := i) h (by simpa [slot] using n) (by simpa using e) r
    refine ⟨f1 ++ fp, .som hm h1, ?_⟩
    refine List.Perm.trans (List.Perm.append_left f1 h2) ?_
    rw [← List.append_assoc, ← List.append_assoc]
    exact List.Perm.append_right f2 List.perm_append_comm
theorem Wd.perm {F H : Hp} {fp fq : List Addr} (w : Wd F H fp) (p : fq.Perm fp) : Wd F H fq := ⟨w.le, p.nodup_iff.mpr w.nd, fun a ha => w.off a (p.mem_iff.mp ha)⟩
theorem Wd.sub {F H : Hp} {fp fq : List Addr} (w : Wd F H fp) (p : fq.Sublist fp) : Wd F H fq := ⟨w.le, p.nodup w.nd, fun a ha => w.off a (p.subset ha)⟩
theorem Ev.sub {F H : Hp} {fp fq : List Addr} (p : ∀ a ∈ fq, a ∈ fp) : Ev F H fp F H fq := ⟨Le.refl _, fun _ _ e _ => e, fun a ha => .inl (p a ha), fun _ _ e => .inl e⟩
def fStill (i : Nat) (f : Env → R Fl) : Env → R Fl := fun env => f (still env i)
theorem slot_set_self {env : Env} {i : Nat} {m : Option M} (h : slot env i ≠ none) : slot (env.set i m) i = m := by
  have hl : i < env.length := by
    rcases Nat.lt_or_ge i env.length with q | q
    · exact q
    · exact absurd (by simp [slot, List.getElem?_eq_none q]) h
  simp [slot, hl]
theorem slot_set_ne {env : Env} {i j : Nat} {m : Option M} (h : i ≠ j) : slot (env.set i m) j = slot env j := by simp [slot, List.getElem?_set_ne h]
theorem dss_still {i : Nat} (h : DSs X W sts a1 f) : DSs X W sts a1 (fStill i f) := by
  obtain ⟨t, p, k⟩ := h
  refine ⟨t, p, fun env σ F H fp D w re q => ?_⟩
  unfold fStill still at q
  split at q
  · rename_i m hm
    obtain ⟨v, fq, fr, hv, rm, re1, pm⟩ := re.take hm
    have w1 : Wd F H (fq ++ fr) := w.perm pm
    have nd := List.nodup_append.mp w1.nd
    obtain ⟨w2, y2⟩ := w1.still (fq := fq) (fr := fr) (fun a ha => List.mem_append_left _ ha) (fun a ha => List.mem_append_right _ ha) nd.2.1 fun a ha hq => nd.2.2 a hq a ha rfl
    have re2 : RpE X.K (add F H fq) H (env.set i none) σ fr := re1.mono y2.frz fun _ _ _ e => e
    obtain ⟨fp3, re3, pm3⟩ := re2.put (m := .d (frz m)) (fq := []) (slot_set_self (by rw [hm]; simp)) hv (.d (rm.still y2.frz fun a ha => add_in ha))
    rw [List.set_set] at re3
    have pm4 : fp3.Perm fr := pm3
    refine k _ σ (add F H fq) H fp3 D (w2.perm pm4) re3 (PostS.shift ?_ (Agree.refl _ _) q)
    exact y2.perm (fun a => pm.mem_iff) fun a ha => pm4.mem_iff.mp ha
  · exact k env σ F H fp D w re q

/-! ### small statements -/
def fSetV (i : Nat) (fa : Env → R D) : Env → R Fl := fun env => (fa env).bind fun d e => .ok .nx (e.set i (some (.d d)))
def fSetM (i : Nat) (fa : Env → R M) : Env → R Fl := fun env => (fa env).bind fun m e => .ok .nx (e.set i (some m))
theorem RpE.setM {K : PySem.W.Frag} {F H : Hp} : ∀ {env : Env} {σ : St} {fp fq : List Addr} {i : Nat} {v : V} {m : M}, RpE K F H env σ fp → RpM K F H v m fq → ∃ fp' fs, RpE K F H (env.set i (some m)) (σ.set i (some v)) fp' ∧ fp'.Perm (fs ++ (if i < σ.length then fq else [])) ∧ fs.Sublist fp
  | _, _, _, fq, _, _, _, .nil, _ => ⟨[], [], by simpa using RpE.nil, by simp, List.Sublist.refl _⟩
  | _, _, _, fq, 0, _, _, .non (fp := fp) h, r => ⟨fq ++ fp, fp, .som r h, by simpa using List.perm_append_comm, List.Sublist.refl _⟩
  | _, _, _, fq, 0, _, _, .som (f1 := f1) (f2 := f2) _ h, r => ⟨fq ++ f2, f2, .som r h, by simpa using List.perm_append_comm, List.sublist_append_right _ _⟩
  | _, _, _, fq, i + 1, _, _, .non h, r => by
    obtain ⟨fp', fs, h1, h2, h3⟩ := RpE.setM (i := i) h r
    exact ⟨fp', fs, .non h1, by simpa using h2, h3⟩
  | _, _, _, fq, i + 1, _, _, .som (f1 := f1) (f2 := f2) hm h, r => by
    obtain ⟨fp', fs, h1, h2, h3⟩ := RpE.setM (i := i) h r
    exact ⟨f1 ++ fp', f1 ++ fs, .som hm h1, by simpa [List.append_assoc] using List.Perm.append_left f1 h2, h3.append_left _⟩
theorem ds_set {i : Nat} {x : Str} {fa : Env → R D} {pos' : Pos} (hN : X.N.Nodup) (ha : EV X W e fa) (hi : X.N[i]? = some x := by rfl) (hx : Loc X.env.scope x := by first | exact .inl rfl | exact .inr rfl)
    (hs : swapsWith e (some (.Name x pos')) pos.line X.env = pure false := by rfl) (hf : X.fn x = true ∨ X.env.scope.names.lookup x = some .local := by first | exact .inl rfl | exact .inr rfl) : DS X W (.Assign [.Name x pos'] e pos) [i] (fSetV i fa) := by
  obtain ⟨t, p, k⟩ := ha
  refine ⟨_, ps_set hN hi hx p hs hf, fun env σ F H fp D w re q => ?_⟩
  refine k env σ F H fp _ w re (PostS.seqE (rep1 := repV X.K) q fun d env1 v F1 H1 fq fp1 y w1 re1 r1 q1 => ?_)
  obtain ⟨rfl, r1⟩ := r1
  obtain ⟨fp2, re2, sb⟩ := re1.sub_set (i := i) r1
  exact q1 (σ.set i (some v)) F1 H1 fp2 (Ev.sub fun a ha => sb.subset ha) (w1.sub sb) re2 (Agree.set _ _ _ _ (List.mem_singleton.mpr rfl))
/-- a name that holds what is made, to be changed -/
theorem ds_setM {i : Nat} {x : Str} {fa : Env → R M} {pos' : Pos} (hN : X.N.Nodup) (ha : EM X W e fa) (hi : X.N[i]? = some x := by rfl) (hx : Loc X.env.scope x := by first | exact .inl rfl | exact .inr rfl)
    (hs : swapsWith e (some (.Name x pos')) pos.line X.env = pure false := by rfl) (hf : X.fn x = true ∨ X.env.scope.names.lookup x = some .local := by first | exact .inl rfl | exact .inr rfl) : DS X W (.Assign [.Name x pos'] e pos) [i] (fSetM i fa) := by
  obtain ⟨t, p, k⟩ := ha
  refine ⟨_, ps_set hN hi hx p hs hf, fun env σ F H fp D w re q => ?_⟩
  refine k env σ F H fp _ w re (PostS.seqE (rep1 := repM X.K) q fun m env1 v F1 H1 fq fp1 y w1 re1 r1 q1 => ?_)
  have re1' : RpE X.K F1 H1 env1 σ fp1 := re1
  have w1' : Wd F1 H1 fp1 := w1.sub (List.sublist_append_right _ _)
  obtain ⟨fp2, fs, re2, pm, sb⟩ := re1.setM (i := i) (m := m) (v := v) r1
  have sub2 : (fs ++ (if i < σ.length then fq else [])).Sublist (fp1 ++ fq) := by
    refine sb.append ?_
    split
    · exact List.Sublist.refl _
    · exact List.nil_sublist _
  have w2 : Wd F1 H1 fp2 := ((w1.perm (List.perm_append_comm (l₁ := fp1) (l₂ := fq))).sub sub2).perm pm
  exact q1 (σ.set i (some v)) F1 H1 fp2 (Ev.sub fun a ha => by
    have := sub2.subset (pm.mem_iff.mp ha)
    rcases List.mem_append.mp this with z | z
    · exact List.mem_append_right _ z
    · exact List.mem_append_left _ z) w2 re2 (Agree.set _ _ _ _ (List.mem_singleton.mpr rfl))
def fDrop (fa : Env → R D) : Env → R Fl := fun env => (fa env).bind fun _ e => .ok .nx e
theorem ds_expr {fa : Env → R D} (ha : EB X W e fa) (hs : swapsWith e none pos.line X.env = pure false := by rfl) : DS X W (.Expr e pos) [] (fDrop fa) := by
  obtain ⟨t, p, k⟩ := ha
  refine ⟨_, ps_expr p hs, fun env σ F H fp D w re q => ?_⟩
  refine k env σ F H fp _ w re (PostS.seqE (rep1 := repB X.K) q fun d env1 v F1 H1 fq fp1 y w1 re1 r1 q1 => ?_)
  obtain ⟨rfl, r1⟩ := r1
  exact q1 σ F1 H1 fp1 (Ev.refl _ _ _) w1 re1 (Agree.refl _ _)
def fRet (fa : Env → R M) : Env → R Fl := fun env => (fa env).bind fun m e => .ok (.rt m) e
theorem ds_ret {fa : Env → R M} (ha : EM X W e fa) : DS X W (.Return (some e) pos) [] (fRet fa) := by
  obtain ⟨t, p, k⟩ := ha
  refine ⟨_, ps_ret p, fun env σ F H fp D w re q => ?_⟩
  refine k env σ F H fp _ w re (PostS.seqE (rep1 := repM X.K) q fun m env1 v F1 H1 fq fp1 y w1 re1 r1 q1 => ?_)
  exact q1 v σ F1 H1 fq fp1 (Ev.refl _ _ _) w1 re1 r1 (Agree.refl _ _)
def fRetN : Env → R Fl := fun env => .ok (.rt (.d .none)) env
theorem ds_retN : DS X W (.Return none pos) [] fRetN := ⟨_, ps_retN, fun env σ F H fp D w re q => q .non σ F H [] fp (Ev.refl _ _ _) w re (.d .non) (Agree.refl _ _)⟩
def fBk : Env → R Fl := fun env => .ok .bk env
def fCt : Env → R Fl := fun env => .ok .ct env
theorem ds_pass : DS X W (.Pass pos) [] fNx := ⟨_, ps_pass, fun env σ F H fp D w re q => q σ F H fp (Ev.refl _ _ _) w re (Agree.refl _ _)⟩
theorem ds_break : DS X W (.Break pos) [] fBk := ⟨_, ps_break, fun env σ F H fp D w re q => q σ F H fp (Ev.refl _ _ _) w re (Agree.refl _ _)⟩
theorem ds_continue : DS X W (.Continue pos) [] fCt := ⟨_, ps_continue, fun env σ F H fp D w re q => q σ F H fp (Ev.refl _ _ _) w re (Agree.refl _ _)⟩
/-- what is never come to -/
def fNo {α : Type} : Env → R α := fun _ => .stuck
theorem ds_no : DS X W st [] fNo := ⟨_, ps_never, fun env σ F H fp D w re q => q⟩
theorem dss_no : DSs X W sts [] fNo := ⟨_, pss_never, fun env σ F H fp D w re q => q⟩
theorem ds_if {c : Expr} {b1 b2 : List Stmt} {fc : Env → R Bool} (hc : ET X W c fc) (h1 : DSs X W b1 a1 f) (h2 : DSs X W b2 a2 g) : DS X W (.If c b1 b2 pos) (a1 ++ a2) (fIf fc f g) := by
  obtain ⟨tc, pc, kc⟩ := hc
  obtain ⟨t1, p1, k1⟩ := h1
  obtain ⟨t2, p2, k2⟩ := h2
  refine ⟨_, ps_if pc p1 p2, fun env σ F H fp D w re q => ?_⟩
  refine kc env σ F H fp _ w re (PostS.seqE (rep1 := repT) q fun c env1 v F1 H1 fq fp1 y w1 re1 r1 q1 => ?_)
  obtain ⟨rfl, rfl⟩ := r1
  cases v with
  | true => rw [if_pos rfl] at q1 ⊢; exact k1 env1 σ F1 H1 fp1 D w1 re1 (q1.wid fun j hj => List.mem_append_left _ hj)
  | false => rw [if_neg Bool.false_ne_true] at q1 ⊢; exact k2 env1 σ F1 H1 fp1 D w1 re1 (q1.wid fun j hj => List.mem_append_right _ hj)
end

/-! ### targets -/
def DG (X : Cx) (tg : Expr) (asg : List Nat) (g : D → Env → Option Env) : Prop :=
  ∃ t : TG, PG X tg t ∧ ∀ d env env' v σ F H fp Q, Wd F H fp → RpE X.K F H env σ fp → Rp X.K F v d → g d env = some env' →
    (∀ σ' fp', RpE X.K F H env' σ' fp' → Agree asg σ σ' → fp'.Sublist fp → Q σ' H) → t v σ H Q
def DGs (X : Cx) (tg : List Expr) (asg : List Nat) (g : List D → Env → Option Env) : Prop :=
  ∃ t : TGs, PGs X tg t ∧ ∀ ds env env' vs σ F H fp Q, Wd F H fp → RpE X.K F H env σ fp → Rps X.K F vs ds → g ds env = some env' →
    (∀ σ' fp', RpE X.K F H env' σ' fp' → Agree asg σ σ' → fp'.Sublist fp → Q σ' H) → t vs σ H Q
def gN (i : Nat) : D → Env → Option Env := fun d env => some (env.set i (some (.d d)))
def gT (g : List D → Env → Option Env) : D → Env → Option Env := fun d env => match d with
  | .tuple ds => g ds env
  | _ => none
def gNil : List D → Env → Option Env := fun ds env => match ds with
  | [] => some env
  | _ => none
def gCons (g : D → Env → Option Env) (gs : List D → Env → Option Env) : List D → Env → Option Env := fun ds env => match ds with
  | d :: r => (g d env).bind (gs r)
  | [] => none
section
variable {X : Cx} {W : WX} {pos : Pos} {es : List Expr} {e : Expr} {a1 a2 : List Nat} {g : D → Env → Option Env} {gs : List D → Env → Option Env}
theorem dg_name {i : Nat} {x : Str} (hN : X.N.Nodup) (hi : X.N[i]? = some x := by rfl) (hx : Loc X.env.scope x := by first | exact .inl rfl | exact .inr rfl) (hf : X.fn x = true ∨ X.env.scope.names.lookup x = some .local := by first | exact .inl rfl | exact .inr rfl) : DG X (.Name x pos) [i] (gN i) := by
  refine ⟨_, pg_name hN hi hx hf, fun d env env' v σ F H fp Q w re r e k => ?_⟩
  simp only [gN, Option.some.injEq] at e
  subst e
  obtain ⟨fp2, re2, sb⟩ := re.sub_set (i := i) r
  exact k _ fp2 re2 (Agree.set _ _ _ _ (List.mem_singleton.mpr rfl)) sb
theorem dgs_nil : DGs X [] [] gNil := by
  refine ⟨_, pgs_nil, fun ds env env' vs σ F H fp Q w re r e k => ?_⟩
  cases ds with
  | nil =>
    simp only [gNil, Option.some.injEq] at e
    subst e
    cases r
    exact ⟨rfl, k σ fp re (Agree.refl _ _) (List.Sublist.refl _)⟩
  | cons _ _ => simp [gNil] at e
theorem dgs_cons (h1 : DG X e a1 g) (h2 : DGs X es a2 gs) (hs : (assignEach (e :: es) X.env).map (·.2) = assign e X.env :: (assignEach es X.env).map (·.2) := by rfl) : DGs X (e :: es) (a1 ++ a2) (gCons g gs) := by
  obtain ⟨t1, p1, k1⟩ := h1
  obtain ⟨t2, p2, k2⟩ := h2
  refine ⟨_, pgs_cons p1 p2 hs, fun ds env env' vs σ F H fp Q w re r e k => ?_⟩
  cases ds with
  | nil => simp [gCons] at e
  | cons d ds =>
    simp only [gCons] at e
    obtain ⟨e1, h1, h2⟩ := Option.bind_eq_some_iff.mp e
    cases r with
    | cons r rs =>
      refine ⟨_, _, rfl, k1 d env e1 _ σ F H fp _ w re r h1 fun σ1 fp1 re1 ag1 sb1 => ?_⟩
      refine k2 ds e1 env' _ σ1 F H fp1 Q (w.sub sb1) re1 rs h2 fun σ2 fp2 re2 ag2 sb2 => ?_
      exact k σ2 fp2 re2 ((ag1.mono fun j hj => List.mem_append_left _ hj).trans (ag2.mono fun j hj => List.mem_append_right _ hj)) (sb2.trans sb1)
theorem dg_tup {k : Nat} (hc : X.calm = true) (h : DGs X es a1 gs) (hn : (assignEach es X.env).length = es.length := by rfl) (hst : (assignEach es X.env).findIdx? (·.1) = none := by rfl) (hl : ∀ ds env env', gs ds env = some env' → ds.length = es.length) : DG X (.Tuple es k pos) a1 (gT gs) := by
  obtain ⟨t, p, kk⟩ := h
  refine ⟨_, pg_tup hc p hn hst, fun d env env' v σ F H fp Q w re r e k => ?_⟩
  cases d with
  | tuple ds =>
    have e1 : gs ds env = some env' := e
    cases r with
    | tup hs rs => exact ⟨_, _, rfl, w.le.st hs, by rw [rs.length]; exact hl _ _ _ e1, kk ds env env' _ σ F H fp Q w re rs e1 k⟩
  | _ => simp [gT] at e
theorem gNil_len : ∀ ds env env', gNil ds env = some env' → ds.length = 0 := fun ds env env' h => by
  cases ds with
  | nil => rfl
  | cons _ _ => simp [gNil] at h
theorem gCons_len {n : Nat} (h : ∀ ds env env', gs ds env = some env' → ds.length = n) : ∀ ds env env', gCons g gs ds env = some env' → ds.length = n + 1 := fun ds env env' q => by
  cases ds with
  | nil => simp [gCons] at q
  | cons d ds =>
    simp only [gCons] at q
    obtain ⟨e1, _, h2⟩ := Option.bind_eq_some_iff.mp q
    rw [List.length_cons, h _ _ _ h2]
/-- target = e -/
def fAsg (fa : Env → R D) (g : D → Env → Option Env) : Env → R Fl := fun env => (fa env).bind fun d e => match g d e with
  | some e' => .ok .nx e'
  | none => .stuck
theorem ds_asg {tg e : Expr} {fa : Env → R D} (ha : EV X W e fa) (hg : DG X tg a1 g) (hs : swapsWithSole [tg] e pos.line X.env = pure false := by rfl) (hw : swappedStores [tg] e X.env = pure none := by rfl)
    (h1 : (assignEach [tg] X.env).map (·.2) = [assign tg X.env] := by rfl) : DS X W (.Assign [tg] e pos) a1 (fAsg fa g) := by
  obtain ⟨t, p, k⟩ := ha
  obtain ⟨tt, pt, kt⟩ := hg
  refine ⟨_, ps_asg p pt hs hw h1, fun env σ F H fp D w re q => ?_⟩
  refine k env σ F H fp _ w re (PostS.seqE (rep1 := repV X.K) q fun d env1 v F1 H1 fq fp1 y w1 re1 r1 q1 => ?_)
  obtain ⟨rfl, r1⟩ := r1
  cases hg : g d env1 with
  | none => rw [hg] at q1; exact False.elim q1
  | some e' =>
    rw [hg] at q1
    exact kt d env1 e' v σ F1 H1 fp1 _ w1 re1 r1 hg fun σ' fp' re2 ag sb => q1 σ' F1 H1 fp' (Ev.sub fun a ha => sb.subset ha) (w1.sub sb) re2 ag
/-- a, b = x, y -/
def fPar (i j : Nat) (fr : Env → R (List Arg)) : Env → R Fl := fun env => (fr env).bind fun as e => match argD as with
  | some [x, y] => .ok .nx ((e.set i (some (.d x))).set j (some (.d y)))
  | _ => .stuck
theorem ds_par {i j : Nat} {x y : Str} {a b : Expr} {fr : Env → R (List Arg)} {px py pt : Pos} {kt k2 pt2} (hc : X.calm = true) (hN : X.N.Nodup) (ha : EA X W [a, b] fr) (hi : X.N[i]? = some x := by rfl) (hj : X.N[j]? = some y := by rfl) (hij : i ≠ j := by decide)
    (hx : X.env.scope.names.lookup x = some .local := by rfl) (hy : X.env.scope.names.lookup y = some .local := by rfl)
    (hw : swappedStores [.Tuple [.Name x px, .Name y py] kt pt] (.Tuple [a, b] k2 pt2) X.env = pure (some [x, y]) := by rfl)
    (hs : swapsWithSole [.Tuple [.Name x px, .Name y py] kt pt] (.Tuple [a, b] k2 pt2) pos.line X.env = pure false := by rfl) :
    DS X W (.Assign [.Tuple [.Name x px, .Name y py] kt pt] (.Tuple [a, b] k2 pt2) pos) [i, j] (fPar i j fr) := by
  obtain ⟨t, p, k⟩ := ha
  refine ⟨_, ps_par hc hN hi hj hij hx hy p hw hs, fun env σ F H fp D w re q => ?_⟩
  refine k env σ F H fp _ w re (PostS.seqE (rep1 := repA X.K σ) q fun as env1 vs F1 H1 fq fp1 y w1 re1 r1 q1 => ?_)
  obtain ⟨rfl, r1⟩ := r1
  cases ha : argD as with
  | none => rw [ha] at q1; exact False.elim q1
  | some ds =>
    rw [ha] at q1
    have rs := r1.data ha
    match ds, rs, q1 with
    | [d1, d2], .cons (v := v1) r1 (.cons (v := v2) r2 .nil), q1 =>
      obtain ⟨fp2, re2, sb2⟩ := re1.sub_set (i := i) r1
      obtain ⟨fp3, re3, sb3⟩ := re2.sub_set (i := j) r2
      refine ⟨v1, v2, rfl, q1 _ F1 H1 fp3 (Ev.sub fun a ha => sb2.subset (sb3.subset ha)) (w1.sub (sb3.trans sb2)) re3 ?_⟩
      exact (Agree.set [i, j] _ i (some v1) (by simp)).trans (Agree.set [i, j] _ j (some v2) (by simp))
/-- the same where the first one is made to be changed: a, b = [..], y -/
def fParM (i j : Nat) (fa : Env → R M) (fb : Env → R M) : Env → R Fl := fun env => (fa env).bind fun m e1 => (fb e1).bind fun n e2 => .ok .nx ((e2.set i (some m)).set j (some n))
end
end DL
set_option Elab.async false
set_option linter.all false
set_option maxRecDepth 100000
set_option maxHeartbeats 4000000
namespace DL
open PySem PySem.Spec PyProof.Rows L2

/-! ### what is walked -/
/-- J yields the data ds, one a turn -/
def Walks (K : PySem.W.Frag) (J : It) (ds : List D) (F1 : Hp) : Prop := ∀ F2 H2, Le F1 F2 → Le F2 H2 → ∀ i, (ds.length ≤ i → J.stop i H2) ∧
  (∀ d, ds[i]? = some d → J.go i H2 ∧ ∀ x H3, J.yld i H2 x H3 → ∃ F3, Gr F2 H2 F3 H3 ∧ Rp K F3 x d)
def repI (K : PySem.W.Frag) : Hp → Hp → It → List D → List Addr → Prop := fun F _ J ds fq => fq = [] ∧ Walks K J ds F
def DI (X : Cx) (W : WX) (tg iter : Expr) (fi : Env → R (List D)) : Prop :=
  ∃ wi : TI, PI X tg iter wi ∧ ∀ env σ F H fp (Q : It → Hp → Prop), Wd F H fp → RpE X.K F H env σ fp → Post X W σ F H fp (repI X.K) Q (fi env) → wi σ H Q
def itD : D → Option (List D)
  | .list ds => some ds
  | _ => none
def itT : D → Option (List D)
  | .tuple ds => some ds
  | _ => none
def fIt (g : D → Option (List D)) (fa : Env → R D) : Env → R (List D) := fun env => (fa env).bind fun d e => .of (g d) e
theorem walks_list {K : PySem.W.Frag} {F : Hp} {a : Addr} {xs : List V} {ds : List D} (h : SqL K F a xs) (r : Rps K F xs ds) (inj : ∀ H ys, Le F H → SqL K H a ys → ys = xs) : Walks K (Itl K a) ds F := fun F2 H2 l1 l2 i => by
  have h2 : SqL K H2 a xs := (l1.trans l2).sl h
  refine ⟨fun hi => ⟨xs, h2, by rw [r.length]; exact hi⟩, fun d hd => ?_⟩
  obtain ⟨v, hv, rv⟩ := r.get hd
  refine ⟨⟨xs, v, h2, hv⟩, fun x H3 y => ?_⟩
  obtain ⟨rfl, y⟩ := y
  have := y xs h2
  rw [hv] at this
  cases this
  exact ⟨F2, Gr.refl l2, rv.mono l1⟩
theorem walks_tup {K : PySem.W.Frag} {F : Hp} {a : Addr} {xs : List V} {ds : List D} (h : SqT K F a xs) (r : Rps K F xs ds) : Walks K (Itt K a) ds F := fun F2 H2 l1 l2 i => by
  have h2 : SqT K H2 a xs := (l1.trans l2).st h
  refine ⟨fun hi => ⟨xs, h2, by rw [r.length]; exact hi⟩, fun d hd => ?_⟩
  obtain ⟨v, hv, rv⟩ := r.get hd
  refine ⟨⟨xs, v, h2, hv⟩, fun x H3 y => ?_⟩
  obtain ⟨rfl, y⟩ := y
  have := y xs h2
  rw [hv] at this
  cases this
  exact ⟨F2, Gr.refl l2, rv.mono l1⟩
section
variable {X : Cx} {W : WX} {tg e : Expr} {fa : Env → R D}
theorem di_list (h : EV X W e fa) : DI X W tg e (fIt itD fa) := by
  obtain ⟨t, p, k⟩ := h
  refine ⟨_, pi_list p, fun env σ F H fp Q w re q => k env σ F H fp _ w re (Post.seq (rep1 := repV X.K) q fun d env1 v F1 H1 fq fp1 y w1 re1 r1 q1 => ?_)⟩
  obtain ⟨rfl, r1⟩ := r1
  obtain ⟨z, hz, q2⟩ := q1.of
  cases d with
  | list ds =>
    simp only [itD, Option.some.injEq] at hz
    subst hz
    cases r1 with
    | lst h1 rs =>
      rename_i a xs
      exact ⟨a, rfl, ⟨xs, w1.le.sl h1⟩, q2 (Itl X.K a) F1 H1 [] fp1 (Ev.refl _ _ _) w1 re1 ⟨rfl, fun F2 H2 l1 l2 i => by
        have h2 : SqL X.K H2 a xs := (l1.trans l2).sl h1
        refine ⟨fun hi => ⟨xs, h2, by rw [rs.length]; exact hi⟩, fun d hd => ?_⟩
        obtain ⟨v, hv, rv⟩ := rs.get hd
        refine ⟨⟨xs, v, h2, hv⟩, fun x H3 y => ?_⟩
        obtain ⟨rfl, y⟩ := y
        have := y xs h2
        rw [hv] at this
        cases this
        exact ⟨F2, Gr.refl l2, rv.mono l1⟩⟩⟩
  | _ => simp [itD] at hz
theorem di_tup (h : EV X W e fa) : DI X W tg e (fIt itT fa) := by
  obtain ⟨t, p, k⟩ := h
  refine ⟨_, pi_tup p, fun env σ F H fp Q w re q => k env σ F H fp _ w re (Post.seq (rep1 := repV X.K) q fun d env1 v F1 H1 fq fp1 y w1 re1 r1 q1 => ?_)⟩
  obtain ⟨rfl, r1⟩ := r1
  obtain ⟨z, hz, q2⟩ := q1.of
  cases d with
  | tuple ds =>
    simp only [itT, Option.some.injEq] at hz
    subst hz
    cases r1 with
    | tup h1 rs =>
      rename_i a xs
      exact ⟨a, rfl, ⟨xs, w1.le.st h1⟩, q2 (Itt X.K a) F1 H1 [] fp1 (Ev.refl _ _ _) w1 re1 ⟨rfl, walks_tup h1 rs⟩⟩
  | _ => simp [itT] at hz
/-- a text, sign by sign -/
def sign1 (c : Nat) : D := .str ⟨#[c]⟩
def itS : D → Option (List D)
  | .str x => some (x.cps.toList.map sign1)
  | _ => none
theorem di_str (h : EB X W e fa) : DI X W tg e (fIt itS fa) := by
  obtain ⟨t, p, k⟩ := h
  refine ⟨_, pi_str p, fun env σ F H fp Q w re q => k env σ F H fp _ w re (Post.seq (rep1 := repB X.K) q fun d env1 v F1 H1 fq fp1 y w1 re1 r1 q1 => ?_)⟩
  obtain ⟨rfl, r1⟩ := r1
  obtain ⟨z, hz, q2⟩ := q1.of
  cases d with
  | str x =>
    simp only [itS, Option.some.injEq] at hz
    subst hz
    cases r1
    refine ⟨x, rfl, q2 (Its x) F1 H1 [] fp1 (Ev.refl _ _ _) w1 re1 ⟨rfl, fun F2 H2 l1 l2 i => ⟨fun hi => ?_, fun d hd => ?_⟩⟩⟩
    · show x.cps.size ≤ i
      simpa using hi
    · rw [List.getElem?_map, Option.map_eq_some_iff] at hd
      obtain ⟨c, hc, rfl⟩ := hd
      have hc' : x.cps[i]? = some c := by rw [← Array.getElem?_toList]; exact hc
      refine ⟨?_, fun v H3 y => ?_⟩
      · show i < x.cps.size
        exact (Array.getElem?_eq_some_iff.mp hc').1
      · obtain ⟨rfl, c', h1, rfl⟩ := y
        rw [hc'] at h1
        cases h1
        exact ⟨F2, Gr.refl l2, .str _⟩
  | _ => simp [itS] at hz
/-- range(b), range(a, b) -/
def rngL (lo : Int) (n : Nat) : List D := (List.range n).map fun i => .int (lo + (i : Nat))
theorem rngL_get {lo : Int} {n i : Nat} {d : D} (h : (rngL lo n)[i]? = some d) : i < n ∧ d = .int (lo + (i : Nat)) := by
  unfold rngL at h
  rw [List.getElem?_map, Option.map_eq_some_iff] at h
  obtain ⟨j, h1, rfl⟩ := h
  obtain ⟨h2, h3⟩ := List.getElem?_eq_some_iff.mp h1
  rw [List.length_range] at h2
  rw [List.getElem_range] at h3
  subst h3
  exact ⟨h2, rfl⟩
theorem walks_range {K : PySem.W.Frag} {F : Hp} {lo : Int} {n : Nat} : Walks K (Itr lo n) (rngL lo n) F := fun F2 H2 l1 l2 i => by
  refine ⟨fun hi => ?_, fun d hd => ?_⟩
  · show n ≤ i
    simpa [rngL] using hi
  · obtain ⟨h1, rfl⟩ := rngL_get hd
    refine ⟨h1, fun x H3 y => ?_⟩
    obtain ⟨rfl, rfl⟩ := y
    exact ⟨F2, Gr.refl l2, .int _⟩
theorem lt_of_log2 {n k : Nat} (h : n.log2 < k) : n < 2 ^ k := by
  by_cases h0 : n = 0
  · rw [h0]; exact Nat.two_pow_pos k
  · exact (Nat.log2_lt h0).mp h
theorem log2_of_lt {n k : Nat} (hk : 0 < k) (h : n < 2 ^ k) : n.log2 < k := by
  by_cases h0 : n = 0
  · rw [h0]; simpa using hk
  · exact (Nat.log2_lt h0).mpr h
def rng1 : List Arg → Option (List D)
  | [.d (.int j)] => if j.natAbs.log2 < 62 then some (rngL 0 j.toNat) else none
  | _ => none
def rng2 : List Arg → Option (List D)
  | [.d (.int i), .d (.int j)] => if i.natAbs.log2 < 62 ∧ j.natAbs.log2 < 62 then some (rngL i (j - i).toNat) else none
  | _ => none
def fItA (g : List Arg → Option (List D)) (fa : Env → R (List Arg)) : Env → R (List D) := fun env => (fa env).bind fun d e => .of (g d) e
theorem di_range1 {a : Expr} {fr : Env → R (List Arg)} {p pos : Pos} (hm : X.mg "range" = none) (ha : EA X W [a] fr) (hg : Gl X "range" := by rfl) (hs : starEach [a] X.env = [(false, eval a X.env)] := by rfl) : DI X W tg (.Call (.Name "range" p) [a] [] pos) (fItA rng1 fr) := by
  obtain ⟨t, pa, k⟩ := ha
  refine ⟨_, pi_range1 hg hm pa hs, fun env σ F H fp Q w re q => k env σ F H fp _ w re (Post.seq (rep1 := repA X.K σ) q fun as env1 vs F1 H1 fq fp1 y w1 re1 r1 q1 => ?_)⟩
  obtain ⟨rfl, r1⟩ := r1
  obtain ⟨z, hz, q2⟩ := q1.of
  unfold rng1 at hz
  split at hz
  · rename_i j
    split at hz
    · rename_i hj
      cases hz
      cases r1 with
      | d ra rb =>
        cases ra
        cases rb
        have hj := lt_of_log2 hj
        exact ⟨j, rfl, by omega, by omega, q2 (Itr 0 j.toNat) F1 H1 [] fp1 (Ev.refl _ _ _) w1 re1 ⟨rfl, walks_range⟩⟩
    · cases hz
  · cases hz
theorem di_range2 {a b : Expr} {fr : Env → R (List Arg)} {p pos : Pos} (hm : X.mg "range" = none) (ha : EA X W [a, b] fr) (hg : Gl X "range" := by rfl) (hs : starEach [a, b] X.env = [(false, eval a X.env), (false, eval b X.env)] := by rfl) (hs2 : starEach [b] X.env = [(false, eval b X.env)] := by rfl) : DI X W tg (.Call (.Name "range" p) [a, b] [] pos) (fItA rng2 fr) := by
  obtain ⟨t, pa, k⟩ := ha
  refine ⟨_, pi_range2 hg hm pa hs hs2, fun env σ F H fp Q w re q => k env σ F H fp _ w re (Post.seq (rep1 := repA X.K σ) q fun as env1 vs F1 H1 fq fp1 y w1 re1 r1 q1 => ?_)⟩
  obtain ⟨rfl, r1⟩ := r1
  obtain ⟨z, hz, q2⟩ := q1.of
  unfold rng2 at hz
  split at hz
  · rename_i i j
    split at hz
    · rename_i hj
      cases hz
      cases r1 with
      | d ra rb =>
        cases ra
        cases rb with
        | d rb rc =>
          cases rb
          cases rc
          have h1 := lt_of_log2 hj.1
          have h2 := lt_of_log2 hj.2
          exact ⟨i, j, rfl, ⟨by omega, by omega, by omega, by omega⟩, q2 (Itr i (j - i).toNat) F1 H1 [] fp1 (Ev.refl _ _ _) w1 re1 ⟨rfl, walks_range⟩⟩
    · cases hz
  · cases hz
end

/-! ### loops -/
/-- behind a turn -/
def loopF (k : Env → R Fl) : R Fl → R Fl
  | .ok .nx e => k e
  | .ok .ct e => k e
  | .ok .bk e => .ok .nx e
  | .ok (.rt m) e => .ok (.rt m) e
  | .err x e => .err x e
  | .stuck => .stuck
theorem PostS.loop {X : Cx} {W : WX} {σ : St} {F H : Hp} {fp : List Addr} {a1 asg : List Nat} {D : Ends} (ha : ∀ j ∈ a1, j ∈ asg) {N : St → Hp → Prop} {k : Env → R Fl} {r : R Fl} (h : PostS X W σ F H fp asg D (loopF k r))
    (st : ∀ env1 σ1 F1 H1 fp1, Ev F H fp F1 H1 fp1 → Wd F1 H1 fp1 → RpE X.K F1 H1 env1 σ1 fp1 → Agree asg σ σ1 → PostS X W σ1 F1 H1 fp1 asg D (k env1) → N σ1 H1) : PostS X W σ F H fp a1 { D with nx := N, ct := N, bk := D.nx } r := by
  cases r with
  | stuck => exact h
  | err x e => exact fun c d σ' F' H' fp' y w re rx a => h c d σ' F' H' fp' y w re rx (a.mono ha)
  | ok fl e =>
    cases fl with
    | nx => exact fun σ' F' H' fp' y w re a => st e σ' F' H' fp' y w re (a.mono ha) (PostS.shift (r := k e) y (a.mono ha) h)
    | ct => exact fun σ' F' H' fp' y w re a => st e σ' F' H' fp' y w re (a.mono ha) (PostS.shift (r := k e) y (a.mono ha) h)
    | bk => exact fun σ' F' H' fp' y w re a => h σ' F' H' fp' y w re (a.mono ha)
    | rt m => exact fun v σ' F' H' fq fp' y w re rm a => h v σ' F' H' fq fp' y w re rm (a.mono ha)
def forL (g : D → Env → Option Env) (body : Env → R Fl) : List D → Env → R Fl
  | [], e => .ok .nx e
  | d :: ds, e => match g d e with
    | none => .stuck
    | some e1 => loopF (forL g body ds) (body e1)
def fFor (fi : Env → R (List D)) (g : D → Env → Option Env) (body : Env → R Fl) : Env → R Fl := fun env => (fi env).bind fun ds e => forL g body ds e
section
variable {X : Cx} {W : WX} {tg iter : Expr} {body : List Stmt} {fi : Env → R (List D)} {g : D → Env → Option Env} {fb : Env → R Fl} {a1 a2 : List Nat} {pos : Pos}
theorem ds_for (hp : PassesOwn (model X.prog X.w) X.A X.env X.xe) (hc : X.calm = true) (hi : DI X W tg iter fi) (hg : DG X tg a1 g) (hb : DSs X W body a2 fb)
    (hs : ∀ x, foldedSetIterable iter X.env x = pure x := by intro _; rfl) : DS X W (.For tg iter body [] pos) (a1 ++ a2) (fFor fi g fb) := by
  obtain ⟨wi, pi, ki⟩ := hi
  obtain ⟨tt, pt, kt⟩ := hg
  obtain ⟨tb, pb, kb⟩ := hb
  refine ⟨_, ps_for hp hc pi pt pb hs, fun env σ F H fp D w re q => ?_⟩
  refine ki env σ F H fp _ w re (PostS.seqE (rep1 := repI X.K) q fun ds env1 J F1 H1 fq fp1 y w1 re1 r1 q1 => ?_)
  obtain ⟨rfl, wk⟩ := r1
  refine ⟨fun i m σ' H' => m = ds.length - i ∧ ∃ env' F' fp', Ev F1 H1 fp1 F' H' fp' ∧ Wd F' H' fp' ∧ RpE X.K F' H' env' σ' fp' ∧ PostS X W σ' F' H' fp' (a1 ++ a2) D (forL g fb (ds.drop i) env'),
    ⟨ds.length, rfl, env1, F1, fp1, Ev.refl _ _ _, w1, re1, q1⟩, ?_⟩
  rintro i m σ' H' ⟨rfl, env', F', fp', y', w', re', q'⟩
  have wi := wk F' H' y'.frz w'.le i
  cases hd : ds[i]? with
  | none =>
    have hl : ds.length ≤ i := List.getElem?_eq_none_iff.mp hd
    refine .inl ⟨wi.1 hl, ?_⟩
    rw [List.drop_eq_nil_of_le hl] at q'
    exact q' σ' F' H' fp' (Ev.refl _ _ _) w' re' (Agree.refl _ _)
  | some d =>
    obtain ⟨go, yl⟩ := wi.2 d hd
    have hlt : i < ds.length := (List.getElem?_eq_some_iff.mp hd).1
    refine .inr ⟨go, fun σ2 H2 => ∃ env2 F2 fp2, Ev F1 H1 fp1 F2 H2 fp2 ∧ Wd F2 H2 fp2 ∧ RpE X.K F2 H2 env2 σ2 fp2 ∧ PostS X W σ2 F2 H2 fp2 (a1 ++ a2) D (forL g fb (ds.drop (i + 1)) env2), fun σ2 H2 h2 => ⟨ds.length - (i + 1), by omega, rfl, h2⟩, fun x H3 hy => ?_⟩
    obtain ⟨F3, gr, rx⟩ := yl x H3 hy
    have st := gr.step w' re'.there
    have hdrop : ds.drop i = d :: ds.drop (i + 1) := by
      rw [List.drop_eq_getElem_cons hlt]
      congr 1
      exact (List.getElem?_eq_some_iff.mp hd).2
    rw [hdrop] at q'
    unfold forL at q'
    cases hg : g d env' with
    | none => rw [hg] at q'; exact False.elim q'
    | some e1 =>
      rw [hg] at q'
      refine kt d env' e1 x σ' F3 H3 fp' _ st.1 (re'.gr gr) rx hg fun σ4 fp4 re4 ag4 sb4 => ?_
      have w4 : Wd F3 H3 fp4 := st.1.sub sb4
      have y4 : Ev F' H' fp' F3 H3 fp4 := st.2.trans (Ev.sub fun a ha => sb4.subset ha)
      have ag4' : Agree (a1 ++ a2) σ' σ4 := ag4.mono fun j hj => List.mem_append_left _ hj
      have q4 : PostS X W σ4 F3 H3 fp4 (a1 ++ a2) D (loopF (forL g fb (ds.drop (i + 1))) (fb e1)) := PostS.shift y4 ag4' q'
      exact kb e1 σ4 F3 H3 fp4 _ w4 re4 (PostS.loop (fun j hj => List.mem_append_right _ hj) q4 fun e2 σ5 F5 H5 fp5 y5 w5 re5 ag5 q5 => ⟨e2, F5, fp5, y'.trans (y4.trans y5), w5, re5, q5⟩)

/-! ### while -/
def whileL (c : Env → R Bool) (body : Env → R Fl) : Nat → Env → R Fl
  | 0, _ => .stuck
  | n + 1, e => (c e).bind fun b e1 => if b = true then loopF (whileL c body n) (body e1) else .ok .nx e1
def fWhile (fuel : Env → Nat) (c : Env → R Bool) (body : Env → R Fl) : Env → R Fl := fun env => whileL c body (fuel env) env
theorem ds_while {c : Expr} {fc : Env → R Bool} (fuel : Env → Nat) (hp : PassesOwn (model X.prog X.w) X.A X.env X.xe) (hc : ET X W c fc) (hb : DSs X W body a2 fb) : DS X W (.While c body [] pos) a2 (fWhile fuel fc fb) := by
  obtain ⟨tc, pc, kc⟩ := hc
  obtain ⟨tb, pb, kb⟩ := hb
  refine ⟨_, ps_while hp pc pb, fun env σ F H fp D w re q => ?_⟩
  refine ⟨fun m σ' H' => ∃ env' F' fp', Ev F H fp F' H' fp' ∧ Wd F' H' fp' ∧ RpE X.K F' H' env' σ' fp' ∧ PostS X W σ' F' H' fp' a2 D (whileL fc fb m env'), ⟨fuel env, env, F, fp, Ev.refl _ _ _, w, re, q⟩, ?_⟩
  rintro m σ' H' ⟨env', F', fp', y', w', re', q'⟩
  cases m with
  | zero => exact False.elim q'
  | succ n =>
    unfold whileL at q'
    refine kc env' σ' F' H' fp' _ w' re' (PostS.seqE (rep1 := repT) q' fun b e1 v F1 H1 fq fp1 y1 w1 re1 r1 q1 => ?_)
    obtain ⟨rfl, rfl⟩ := r1
    cases v with
    | false =>
      rw [if_neg Bool.false_ne_true] at q1 ⊢
      exact q1 σ' F1 H1 fp1 (Ev.refl _ _ _) w1 re1 (Agree.refl _ _)
    | true =>
      rw [if_pos rfl] at q1 ⊢
      refine ⟨fun σ2 H2 => ∃ env2 F2 fp2, Ev F H fp F2 H2 fp2 ∧ Wd F2 H2 fp2 ∧ RpE X.K F2 H2 env2 σ2 fp2 ∧ PostS X W σ2 F2 H2 fp2 a2 D (whileL fc fb n env2), fun σ2 H2 h2 => ⟨n, Nat.lt_succ_self n, h2⟩, ?_⟩
      exact kb e1 σ' F1 H1 fp1 _ w1 re1 (PostS.loop (fun j hj => hj) q1 fun e2 σ5 F5 H5 fp5 y5 w5 re5 ag5 q5 => ⟨e2, F5, fp5, y'.trans (y1.trans y5), w5, re5, q5⟩)
end

/-! ### comprehensions -/
def wipeE (env : Env) : List Nat → Env
  | [] => env
  | v :: vs => (wipeE env vs).set v none
/-- no slot of these owns a thing -/
def plainAt (env : Env) : List Nat → Bool
  | [] => true
  | v :: vs => (match slot env v with | some (.lst _) => false | some (.dct _) => false | _ => true) && plainAt env vs
def lcL (own : List Nat) (g : D → Env → Option Env) (fc : Env → R Bool) (fe : Env → R D) : List D → Env → List D → R (List D)
  | [], e, acc => .ok acc e
  | d :: ds, e, acc => match g d e with
    | none => .stuck
    | some e1 => match fc e1 with
      | .ok true e2 => match fe e2 with
        | .ok y e3 => if acc.length < sizeLine then lcL own g fc fe ds (wipeE e3 own) (acc ++ [y]) else .stuck
        | _ => .stuck
      | .ok false e2 => lcL own g fc fe ds (wipeE e2 own) acc
      | _ => .stuck
/-- behind it the block's own names are gone -/
def fLc (own : List Nat) (fi : Env → R (List D)) (g : D → Env → Option Env) (fc : Env → R Bool) (fe : Env → R D) : Env → R M := fun env => (fi env).bind fun ds e =>
  match lcL own g fc fe ds (wipeE e own) [] with
  | .ok ys e' => .ok (.lst (ys.map .d)) e'
  | _ => .stuck
def WF : WX := fun _ _ _ _ => False
theorem RpE.wipe1 {K : PySem.W.Frag} {F H : Hp} : ∀ {env : Env} {σ : St} {fp : List Addr} (v : Nat), RpE K F H env σ fp → (∃ fp', RpE K F H (env.set v none) (σ.set v none) fp' ∧ fp'.Sublist fp)
  | _, _, _, v, .nil => ⟨[], by simpa using RpE.nil, List.Sublist.refl _⟩
  | _, _, _, 0, .non h => ⟨_, .non h, List.Sublist.refl _⟩
  | _, _, _, 0, .som (f1 := f1) (f2 := f2) _ h => ⟨f2, .non h, List.sublist_append_right _ _⟩
  | _, _, _, v + 1, .non h => by
    obtain ⟨fp', h1, h2⟩ := RpE.wipe1 v h
    exact ⟨fp', .non h1, h2⟩
  | _, _, _, v + 1, .som (f1 := f1) hm h => by
    obtain ⟨fp', h1, h2⟩ := RpE.wipe1 v h
    exact ⟨f1 ++ fp', .som hm h1, h2.append_left _⟩
theorem RpE.wipe {K : PySem.W.Frag} {F H : Hp} {env : Env} {σ : St} {fp : List Addr} : ∀ (vs : List Nat), RpE K F H env σ fp → ∃ fp', RpE K F H (wipeE env vs) (wipe σ vs) fp' ∧ fp'.Sublist fp
  | [], h => ⟨fp, h, List.Sublist.refl _⟩
  | v :: vs, h => by
    obtain ⟨fp1, h1, s1⟩ := RpE.wipe vs h
    obtain ⟨fp2, h2, s2⟩ := h1.wipe1 v
    exact ⟨fp2, h2, s2.trans s1⟩
/-- the slots as they were before the wipe, what the wiped ones hold forgotten -/
theorem RpE.unwipe1 {K : PySem.W.Frag} {F H : Hp} : ∀ {env : Env} {σ : St} {fp : List Addr} (v : Nat) (x : Option V), RpE K F H env σ fp → slot env v = none → RpE K F H env (σ.set v x) fp
  | _, _, _, v, _, .nil, _ => by simpa using RpE.nil
  | _, _, _, 0, _, .non h, _ => .non h
  | _, _, _, 0, _, .som _ h, e => by simp [slot] at e
  | _, _, _, v + 1, x, .non h, e => .non (RpE.unwipe1 v x h (by simpa [slot] using e))
  | _, _, _, v + 1, x, .som hm h, e => .som hm (RpE.unwipe1 v x h (by simpa [slot] using e))
theorem RpE.ofAgree {K : PySem.W.Frag} {F H : Hp} : ∀ {env : Env} {σ σ' : St} {fp : List Addr}, RpE K F H env σ fp → σ'.length = σ.length → (∀ j, slot env j ≠ none → σ'[j]? = σ[j]?) → RpE K F H env σ' fp
  | _, _, [], _, .nil, _, _ => .nil
  | _, _, _ :: _, _, .nil, hl, _ => by simp at hl
  | _, _, [], _, .non h, hl, _ => by simp at hl
  | _, _, _ :: _, _, .non h, hl, k => .non (RpE.ofAgree h (by simpa using hl) fun j hj => by
    have := k (j + 1) (by simpa [slot] using hj)
    simpa using this)
  | _, _, [], _, .som hm h, hl, _ => by simp at hl
  | _, _, y :: _, _, .som (v := v) hm h, hl, k => by
    have e0 := k 0 (by simp [slot])
    simp at e0
    subst e0
    exact .som hm (RpE.ofAgree h (by simpa using hl) fun j hj => by
      have := k (j + 1) (by simpa [slot] using hj)
      simpa using this)
theorem slot_wipe {env : Env} : ∀ {vs : List Nat} {j : Nat}, j ∈ vs → slot (wipeE env vs) j = none
  | [], _, h => by cases h
  | v :: vs, j, h => by
    unfold wipeE
    by_cases e : v = j
    · subst e
      by_cases hl : v < (wipeE env vs).length
      · simp [slot, hl]
      · have z : ((wipeE env vs).set v none)[v]? = none := List.getElem?_eq_none (by rw [List.length_set]; omega)
        simp [slot, z]
    · rw [slot_set_ne e]
      exact slot_wipe ((List.mem_cons.mp h).resolve_left fun z => e z.symm)
theorem wipe_get {σ : St} : ∀ {vs : List Nat} {j : Nat}, j ∉ vs → (wipe σ vs)[j]? = σ[j]?
  | [], _, _ => rfl
  | v :: vs, j, h => by
    unfold wipe
    rw [List.getElem?_set_ne (fun z => h (by rw [z]; exact List.mem_cons_self)), wipe_get fun z => h (List.mem_cons_of_mem _ z)]
theorem wipe_same {σ σ2 : St} {vs asg : List Nat} (h : Agree asg (wipe σ vs) σ2) (hs : ∀ j ∈ asg, j ∈ vs) : wipe σ2 vs = wipe σ vs := by
  apply List.ext_getElem?
  intro j
  by_cases hj : j ∈ vs
  · have hn : ∀ {τ : St} {vs : List Nat}, j ∈ vs → (wipe τ vs)[j]? = none ∨ (wipe τ vs)[j]? = some none := by
      intro τ vs
      induction vs with
      | nil => intro z; cases z
      | cons v vs ih =>
        intro z
        unfold wipe
        by_cases e : v = j
        · subst e
          by_cases hl : v < (wipe τ vs).length
          · right; rw [List.getElem?_set_self hl]
          · left; exact List.getElem?_eq_none (by rw [List.length_set]; omega)
        · rw [List.getElem?_set_ne e]
          exact ih ((List.mem_cons.mp z).resolve_left fun q => e q.symm)
    have l1 : (wipe σ2 vs).length = (wipe σ vs).length := by rw [wipe_length, h.1]
    rcases hn (τ := σ2) hj with a | a <;> rcases hn (τ := σ) hj with b | b
    · rw [a, b]
    · have := List.getElem?_eq_none_iff.mp a
      have := (List.getElem?_eq_some_iff.mp b).1
      omega
    · have := List.getElem?_eq_none_iff.mp b
      have := (List.getElem?_eq_some_iff.mp a).1
      omega
    · rw [a, b]
  · rw [wipe_get hj, h.2 j (fun z => hj (hs j z))]
/-- pieces that do not hang on what the block is made at -/
theorem uni {ι : Type} {e : Expr} {Xs : ι → Cx} {P : ι → TE → Prop} (h : ∀ i, ∃ t, PE (Xs i) e t ∧ P i t) : ∃ te : ι → TE, (∀ i, PE (Xs i) e (fun σ H Q => ∀ i, te i σ H Q)) ∧ ∀ i, P i (te i) :=
  ⟨fun i => (h i).choose, fun i => ⟨fun pins s σ H Q I q => (h i).choose_spec.1.run pins s σ H Q I (q i)⟩, fun i => (h i).choose_spec.2⟩
theorem uniT {ι : Type} {es : List Expr} {Xs : ι → Cx} {P : ι → TT → Prop} (h : ∀ i, ∃ t, PTs (Xs i) es t ∧ P i t) : ∃ te : ι → TT, (∀ i, PTs (Xs i) es (fun σ H Q => ∀ i, te i σ H Q)) ∧ ∀ i, P i (te i) :=
  ⟨fun i => (h i).choose, fun i => ⟨fun pins s σ H Q I q => (h i).choose_spec.1.run pins s σ H Q I (q i)⟩, fun i => (h i).choose_spec.2⟩
theorem uniG {ι : Type} {e : Expr} {Xs : ι → Cx} {P : ι → TG → Prop} (h : ∀ i, ∃ t, PG (Xs i) e t ∧ P i t) : ∃ te : ι → TG, (∀ i, PG (Xs i) e (fun v σ H Q => ∀ i, te i v σ H Q)) ∧ ∀ i, P i (te i) :=
  ⟨fun i => (h i).choose, fun i => ⟨fun pins s σ H v u Q I r q => (h i).choose_spec.1.run pins s σ H v u Q I r (q i)⟩, fun i => (h i).choose_spec.2⟩
def ETs (X : Cx) (W : WX) (es : List Expr) (f : Env → R Bool) : Prop :=
  ∃ t : TT, PTs X es t ∧ ∀ env σ F H fp Q, Wd F H fp → RpE X.K F H env σ fp → Post X W σ F H fp repT Q (f env) → t σ H Q
def fYes : Env → R Bool := fun env => .ok true env
theorem ets_nil {X : Cx} {W : WX} : ETs X W [] fYes := ⟨_, pts_nil, fun env σ F H fp Q w re q => q true F H [] fp (Ev.refl _ _ _) w re ⟨rfl, rfl⟩⟩
theorem ets_one {X : Cx} {W : WX} {c : Expr} {f : Env → R Bool} (h : ET X W c f) : ETs X W [c] f := by
  obtain ⟨t, p, k⟩ := h
  exact ⟨_, pts_one p, k⟩
/-- an owned thing beside what changes -/
theorem Wd.beside {F H F' H' : Hp} {a : Addr} {o : HO} {fp fp' : List Addr} (w : Wd F H (a :: fp)) (ha : H a = some o) (y : Ev F H fp F' H' fp') (w' : Wd F' H' fp') : Wd F' H' (a :: fp') ∧ Ev F H (a :: fp) F' H' (a :: fp') ∧ H' a = some o := by
  have nd := List.nodup_cons.mp w.nd
  have nF : F a = none := w.off a List.mem_cons_self
  have n1 : a ∉ fp' := fun z => by
    rcases y.own a z with q | q
    · exact nd.1 q
    · rw [ha] at q; cases q
  refine ⟨⟨w'.le, List.nodup_cons.mpr ⟨n1, w'.nd⟩, fun b hb => ?_⟩, ⟨y.frz, fun b u e hb => y.keep b u e fun z => hb (List.mem_cons_of_mem _ z), fun b hb => ?_, fun b u e => ?_⟩, y.keep a o ha nd.1⟩
  · rcases List.mem_cons.mp hb with rfl | hb
    · cases e : F' b with
      | none => rfl
      | some u =>
        rcases y.new b u e with q | q | q
        · rw [nF] at q; cases q
        · exact absurd q nd.1
        · rw [ha] at q; cases q
    · exact w'.off b hb
  · rcases List.mem_cons.mp hb with rfl | hb
    · exact .inl List.mem_cons_self
    · exact (y.own b hb).imp (List.mem_cons_of_mem _) id
  · exact (y.new b u e).imp id (Or.imp (List.mem_cons_of_mem _) id)
theorem Rps.snoc {K : PySem.W.Frag} {F : Hp} {vs : List V} {ds : List D} {v : V} {d : D} (h : Rps K F vs ds) (r : Rp K F v d) : Rps K F (vs ++ [v]) (ds ++ [d]) := h.app (.cons r .nil)
abbrev Blk := Shared × Hp × Addr × List (Str × Addr) × List Addr
abbrev blkX (X : Cx) (scope : Scope) (i : Blk) : Cx := X.blk i.1 i.2.1 scope (compEnvC scope i.2.2.2.1 i.2.2.1 X.env) i.2.2.2.2
/-- the pieces of a comprehension, with what they do -/
structure LC (X : Cx) (W : WX) (elt tg iter : Expr) (ifs : List Expr) (scope : Scope) (own : List (Str × Nat)) (f : Env → R M) : Prop where
  ex : ∃ wi g tt te, PI X tg iter wi ∧ (∀ s H C cl fp, PG (X.blk s H scope (compEnvC scope cl C X.env) fp) tg g) ∧ (∀ s H C cl fp, PTs (X.blk s H scope (compEnvC scope cl C X.env) fp) ifs tt) ∧
    (∀ s H C cl fp, PE (X.blk s H scope (compEnvC scope cl C X.env) fp) elt te) ∧ ∀ env σ F H fp Q, Wd F H fp → RpE X.K F H env σ fp → Post X W σ F H fp (repM X.K) Q (f env) → tLc wi g tt te (own.map (·.2)) σ H Q
section
variable {X : Cx} {W : WX} {elt tg iter : Expr} {ifs : List Expr} {scope : Scope} {own : List (Str × Nat)} {fi : Env → R (List D)} {g : D → Env → Option Env} {fc : Env → R Bool} {fe : Env → R D} {asg : List Nat} {pos : Pos}
theorem lc_mk (hi : DI X W tg iter fi) (hg : ∀ i : Blk, DG (blkX X scope i) tg asg g) (has : ∀ j ∈ asg, j ∈ own.map (·.2)) (ht : ∀ i : Blk, ETs (blkX X scope i) WF ifs fc) (he : ∀ i : Blk, EV (blkX X scope i) WF elt fe) :
    LC X W elt tg iter ifs scope own (fLc (own.map (·.2)) fi g fc fe) := by
  obtain ⟨wi, pi, ki⟩ := hi
  obtain ⟨tg', pg, kg⟩ := uniG hg
  obtain ⟨tt, pt, kt⟩ := uniT ht
  obtain ⟨te, pe, ke⟩ := uni he
  refine ⟨wi, _, _, _, pi, fun s H C cl fp => pg (s, H, C, cl, fp), fun s H C cl fp => pt (s, H, C, cl, fp), fun s H C cl fp => pe (s, H, C, cl, fp), fun env σ F H fp Q w re q => ?_⟩
  generalize hvs : own.map (·.2) = vs at *
  refine ki env σ F H fp _ w re (Post.seq (rep1 := repI X.K) q fun ds env1 J F1 H1 fq fp1 y w1 re1 r1 q1 => ?_)
  obtain ⟨rfl, wk⟩ := r1
  intro Dd hD
  have w1 : Wd F1 H1 fp1 := w1
  have q1 : Post X W σ F1 H1 fp1 (repM X.K) Q (match lcL vs g fc fe ds (wipeE env1 vs) [] with
    | .ok ys e' => .ok (.lst (ys.map .d)) e'
    | _ => .stuck) := q1
  obtain ⟨ys, e', hl, q2⟩ : ∃ ys e', lcL vs g fc fe ds (wipeE env1 vs) [] = .ok ys e' ∧ Post X W σ F1 H1 fp1 (repM X.K) Q (.ok (.lst (ys.map .d)) e') := by
    cases hl : lcL vs g fc fe ds (wipeE env1 vs) [] with
    | ok ys e' => rw [hl] at q1; exact ⟨ys, e', rfl, q1⟩
    | err x e' => rw [hl] at q1; exact False.elim q1
    | stuck => rw [hl] at q1; exact False.elim q1
  obtain ⟨fw, rew, sbw⟩ := re1.wipe vs
  have ww : Wd F1 H1 fw := w1.sub sbw
  obtain ⟨w0, y0⟩ := ww.newO (o := .lst []) hD rew.there
  have re0 : RpE X.K F1 (upd H1 Dd (.lst [])) (wipeE env1 vs) (wipe σ vs) fw := rew.mono (Le.refl _) fun a ha o e => by rw [upd_ne (ne_of_none e hD)]; exact e
  have y00 : Ev F1 H1 fp1 F1 (upd H1 Dd (.lst [])) (Dd :: fw) := (Ev.sub fun a ha => sbw.subset ha).trans y0
  refine ⟨fun i m H' => m = ds.length - i ∧ ∃ env' F' fp' acc xs, Ev F1 H1 fp1 F' H' (Dd :: fp') ∧ Wd F' H' (Dd :: fp') ∧ RpE X.K F' H' env' (wipe σ vs) fp' ∧ H' Dd = some (.lst xs) ∧ Rps X.K F' xs acc ∧
      (∀ j ∈ vs, slot env' j = none) ∧ lcL vs g fc fe (ds.drop i) env' acc = .ok ys e',
    ⟨ds.length, rfl, wipeE env1 vs, F1, fw, [], [], y00, w0, re0, upd_same, .nil, fun j hj => slot_wipe hj, hl⟩, ?_⟩
  rintro i m H' ⟨rfl, env', F', fp', acc, xs, y', w', re', hx, rs, nw, hlc⟩
  have wi := wk F' H' y'.frz w'.le i
  have w'0 : Wd F' H' fp' := w'.sub (List.sublist_cons_self _ _)
  cases hd : ds[i]? with
  | none =>
    have hl : ds.length ≤ i := List.getElem?_eq_none_iff.mp hd
    refine .inl ⟨wi.1 hl, ?_⟩
    rw [List.drop_eq_nil_of_le hl] at hlc
    unfold lcL at hlc
    cases hlc
    refine q2 (.ref Dd) F' H' [Dd] fp' y' w' (re'.ofAgree ?_ fun j hj => ?_) (.lst hx (RpMs.ofData rs))
    · rw [wipe_length]
    · exact (wipe_get fun z => hj (nw j z)).symm
  | some d =>
    obtain ⟨go, yl⟩ := wi.2 d hd
    have hlt : i < ds.length := (List.getElem?_eq_some_iff.mp hd).1
    have hdrop : ds.drop i = d :: ds.drop (i + 1) := by
      rw [List.drop_eq_getElem_cons hlt]
      congr 1
      exact (List.getElem?_eq_some_iff.mp hd).2
    rw [hdrop] at hlc
    unfold lcL at hlc
    refine .inr ⟨go, fun H2 => ∃ env' F' fp' acc xs, Ev F1 H1 fp1 F' H2 (Dd :: fp') ∧ Wd F' H2 (Dd :: fp') ∧ RpE X.K F' H2 env' (wipe σ vs) fp' ∧ H2 Dd = some (.lst xs) ∧ Rps X.K F' xs acc ∧
      (∀ j ∈ vs, slot env' j = none) ∧ lcL vs g fc fe (ds.drop (i + 1)) env' acc = .ok ys e', fun H2 h2 => ⟨ds.length - (i + 1), by omega, rfl, h2⟩, fun x H3 hy => ?_⟩
    obtain ⟨F3, gr, rx⟩ := yl x H3 hy
    have st := gr.step w'0 re'.there
    obtain ⟨w3, y3, hx3⟩ := w'.beside hx st.2 st.1
    intro i0
    cases hg : g d env' with
    | none => rw [hg] at hlc; cases hlc
    | some e1 =>
      rw [hg] at hlc
      dsimp only at hlc
      refine kg i0 d env' e1 x (wipe σ vs) F3 H3 fp' _ st.1 (re'.gr gr) rx hg fun σ4 fp4 re4 ag4 sb4 => ?_
      refine ⟨wipe_same ag4 has, fun i1 => ?_⟩
      have w4 : Wd F3 H3 (Dd :: fp4) := w3.sub (sb4.cons_cons _)
      have y4 : Ev F1 H1 fp1 F3 H3 (Dd :: fp4) := (y'.trans y3).trans (Ev.sub fun a ha => (sb4.cons_cons Dd).subset ha)
      refine kt i1 e1 σ4 F3 H3 fp4 _ (w4.sub (List.sublist_cons_self _ _)) re4 ?_
      have same4 := wipe_same ag4 has
      -- behind a piece: all as before but the slots
      have again : ∀ {F5 H5 : Hp} {fp5 : List Addr} {e5 : Env} {acc5 : List D} {xs5 : List V}, Ev F1 H1 fp1 F5 H5 (Dd :: fp5) → Wd F5 H5 (Dd :: fp5) → RpE X.K F5 H5 e5 σ4 fp5 → H5 Dd = some (.lst xs5) → Rps X.K F5 xs5 acc5 →
          lcL vs g fc fe (ds.drop (i + 1)) (wipeE e5 vs) acc5 = .ok ys e' → ∃ env' F' fp' acc xs, Ev F1 H1 fp1 F' H5 (Dd :: fp') ∧ Wd F' H5 (Dd :: fp') ∧ RpE X.K F' H5 env' (wipe σ vs) fp' ∧ H5 Dd = some (.lst xs) ∧ Rps X.K F' xs acc ∧
            (∀ j ∈ vs, slot env' j = none) ∧ lcL vs g fc fe (ds.drop (i + 1)) env' acc = .ok ys e' := fun {F5 H5 fp5 e5 acc5 xs5} y5 w5 re5 hx5 rs5 hl5 => by
        obtain ⟨f6, re6, sb6⟩ := re5.wipe vs
        rw [same4] at re6
        exact ⟨wipeE e5 vs, F5, f6, acc5, xs5, y5.trans (Ev.sub fun a ha => (sb6.cons_cons Dd).subset ha), w5.sub (sb6.cons_cons _), re6, hx5, rs5, fun j hj => slot_wipe hj, hl5⟩
      cases hc : fc e1 with
      | stuck => rw [hc] at hlc; cases hlc
      | err x e2 => rw [hc] at hlc; cases hlc
      | ok b e2 =>
        rw [hc] at hlc
        intro v F5 H5 fq fp5 y5 w5 re5 r5
        obtain ⟨rfl, rfl⟩ := r5
        obtain ⟨w5', y5', hx5⟩ := w4.beside hx3 y5 w5
        cases v with
        | false =>
          rw [if_neg Bool.false_ne_true]
          dsimp only at hlc
          exact again (y4.trans y5') w5' re5 hx5 (rs.mono (gr.l1.trans y5.frz)) hlc
        | true =>
          rw [if_pos rfl]
          intro i2
          refine ke i2 e2 σ4 F5 H5 fp5 _ w5 re5 ?_
          cases hv : fe e2 with
          | stuck => dsimp only at hlc; rw [hv] at hlc; cases hlc
          | err x e3 => dsimp only at hlc; rw [hv] at hlc; cases hlc
          | ok d3 e3 =>
            dsimp only at hlc
            rw [hv] at hlc
            dsimp only at hlc
            intro v F6 H6 fq fp6 y6 w6 re6 r6
            obtain ⟨rfl, r6⟩ := r6
            obtain ⟨w6', y6', hx6⟩ := w5'.beside hx5 y6 w6
            have rs6 : Rps X.K F6 xs acc := rs.mono (gr.l1.trans (y5.frz.trans y6.frz))
            split at hlc
            · rename_i hz
              refine ⟨xs, hx6, by rw [rs6.length]; exact hz, ?_⟩
              obtain ⟨w7, y7⟩ := w6'.put (o := .lst (xs ++ [v])) List.mem_cons_self
              have n7 : Dd ∉ fp6 := (List.nodup_cons.mp w6'.nd).1
              exact again ((y4.trans y5').trans (y6'.trans y7)) w7 (re6.mono (Le.refl _) fun a ha o e => by rw [upd_ne fun z => n7 (by rw [← z]; exact ha)]; exact e) upd_same (rs6.snoc r6) hlc
            · cases hlc
theorem em_lc {f : Env → R M} (hc : X.calm = true) (hN : X.N.Nodup) (ok : BlkOk X.N X.env.scope scope own) (h : LC X W elt tg iter ifs scope own f) (hs : ∀ x, foldedSetIterable iter X.env x = pure x := by intro _; rfl) :
    EM X W (.ListComp elt [⟨tg, iter, ifs, 0⟩] scope pos) f := by
  obtain ⟨wi, g, tt, te, pi, pg, pt, pe, k⟩ := h.ex
  exact ⟨_, pe_lc hc hN pi ok pg pt pe hs, k⟩
/-- name = [..] on one line -/
theorem ds_setLc {f : Env → R M} {i : Nat} {y : Str} {py spos : Pos} (hc : X.calm = true) (hN : X.N.Nodup) (ok : BlkOk X.N X.env.scope scope own) (h : LC X W elt tg iter ifs scope own f) (hy : X.N[i]? = some y := by rfl) (hyl : X.env.scope.names.lookup y = some .local := by rfl)
    (hsw : swapsWith (.ListComp elt [⟨tg, iter, ifs, 0⟩] scope pos) (some (.Name y py)) spos.line X.env = pure true := by exact sw_true rfl rfl rfl (by decide +kernel)) (hs : ∀ x, foldedSetIterable iter X.env x = pure x := by intro _; rfl) :
    DS X W (.Assign [.Name y py] (.ListComp elt [⟨tg, iter, ifs, 0⟩] scope pos) spos) [i] (fSetM i f) := by
  obtain ⟨wi, g, tt, te, pi, pg, pt, pe, k⟩ := h.ex
  refine ⟨_, ps_setLc hc hN hy hyl hsw pi ok pg pt pe hs, fun env σ F H fp D w re q => ?_⟩
  refine k env σ F H fp _ w re (PostS.seqE (rep1 := repM X.K) q fun m env1 v F1 H1 fq fp1 y w1 re1 r1 q1 => ?_)
  obtain ⟨fp2, fs, re2, pm, sb⟩ := re1.setM (i := i) (m := m) (v := v) r1
  have sub2 : (fs ++ (if i < σ.length then fq else [])).Sublist (fp1 ++ fq) := by
    refine sb.append ?_
    split
    · exact List.Sublist.refl _
    · exact List.nil_sublist _
  have w2 : Wd F1 H1 fp2 := ((w1.perm (List.perm_append_comm (l₁ := fp1) (l₂ := fq))).sub sub2).perm pm
  exact q1 (σ.set i (some v)) F1 H1 fp2 (Ev.sub fun a ha => by
    have := sub2.subset (pm.mem_iff.mp ha)
    rcases List.mem_append.mp this with z | z
    · exact List.mem_append_right _ z
    · exact List.mem_append_left _ z) w2 re2 (Agree.set _ _ _ _ (List.mem_singleton.mpr rfl))
end
end DL
set_option Elab.async false
set_option linter.all false
set_option maxRecDepth 100000
set_option maxHeartbeats 4000000
namespace DL
open PySem PySem.Spec PyProof.Rows L2

/-! ### a def: from what its parameters hold to a result and what the parameters handed on hold behind it -/
inductive RF where
  | ok (m : M) (outs : List M)
  | err (x : Exc) (outs : List M)
  | stuck
/-- the things at the marked places -/
def pick {α : Type} : List Bool → List α → List α
  | true :: bs, v :: vs => v :: pick bs vs
  | false :: bs, _ :: vs => pick bs vs
  | _, _ => []
def outs : List Bool → Env → Option (List M)
  | [], _ => some []
  | true :: bs, some m :: env => (outs bs env).map (m :: ·)
  | false :: bs, _ :: env => outs bs env
  | _, _ => none
def spD (K : PySem.W.Frag) (mg : Str → Option Value) (n : Nat) (br : List Bool) (F : List M → RF) : Sp := fun vs H Q E => ∃ (F0 : Hp) (ms : List M) (fp : List Addr), ms.length = n ∧ br.length = n ∧ Wd F0 H fp ∧ RpMs K F0 H vs ms fp ∧
  match F ms with
  | .stuck => False
  | .ok m os => ∀ (v : V) (F' H' : Hp) (fq fo : List Addr), Ev F0 H fp F' H' (fq ++ fo) → Wd F' H' (fq ++ fo) → RpM K F' H' v m fq → RpMs K F' H' (pick br vs) os fo → Q v H'
  | .err x os => ∀ (cls : Value) (dd : Option Addr) (F' H' : Hp) (fo : List Addr), Ev F0 H fp F' H' fo → Wd F' H' fo → RpX K mg F' x cls dd H' → RpMs K F' H' (pick br vs) os fo → E cls dd H'
theorem RpMs.length {K : PySem.W.Frag} {F H : Hp} : ∀ {vs : List V} {ms : List M} {fp : List Addr}, RpMs K F H vs ms fp → vs.length = ms.length
  | _, _, _, .nil => rfl
  | _, _, _, .cons _ h => by rw [List.length_cons, List.length_cons, h.length]
theorem RpMs.env {K : PySem.W.Frag} {F H : Hp} : ∀ {vs : List V} {ms : List M} {fp : List Addr} (n : Nat), RpMs K F H vs ms fp → RpE K F H (ms.map some ++ List.replicate n none) (vs.map some ++ List.replicate n none) fp
  | _, _, _, 0, .nil => .nil
  | _, _, _, n + 1, .nil => by
    rw [List.map_nil, List.map_nil, List.nil_append, List.nil_append, List.replicate_succ, List.replicate_succ]
    exact .non (by simpa using RpMs.env (K := K) (F := F) (H := H) n .nil)
  | _, _, _, n, .cons h hs => .som h (RpMs.env n hs)
theorem outs_rep {K : PySem.W.Frag} {F H : Hp} : ∀ {br : List Bool} {vs : List V} {env : Env} {σ : St} {os : List M} {fp : List Addr}, outs br env = some os → RpE K F H env σ fp → br.length = vs.length →
    (∀ j : Nat, br[j]? = some true → σ[j]? = (vs.map some)[j]?) → ∃ fo, RpMs K F H (pick br vs) os fo ∧ fo.Sublist fp
  | [], vs, env, σ, os, fp, e, re, hl, h => by
    simp only [outs, Option.some.injEq] at e
    subst e
    exact ⟨[], by cases vs <;> exact .nil, List.nil_sublist _⟩
  | true :: bs, [], _, _, _, _, _, _, hl, _ => by simp at hl
  | false :: bs, [], _, _, _, _, _, _, hl, _ => by simp at hl
  | true :: bs, v :: vs, [], _, _, _, e, _, _, _ => by simp [outs] at e
  | true :: bs, v :: vs, none :: env, _, _, _, e, _, _, _ => by simp [outs] at e
  | true :: bs, v :: vs, some m :: env, σ, os, fp, e, re, hl, h => by
    simp only [outs, Option.map_eq_some_iff] at e
    obtain ⟨os', e1, rfl⟩ := e
    cases re with
    | som hm hs =>
      have h0 := h 0 rfl
      simp at h0
      subst h0
      obtain ⟨fo, h1, h2⟩ := outs_rep e1 hs (by simpa using hl) fun j hj => by
        have := h (j + 1) (by simpa using hj)
        simpa using this
      exact ⟨_ ++ fo, .cons hm h1, h2.append_left _⟩
  | false :: bs, v :: vs, [], _, _, _, e, _, _, _ => by simp [outs] at e
  | false :: bs, v :: vs, x :: env, σ, os, fp, e, re, hl, h => by
    have e1 : outs bs env = some os := by simpa [outs] using e
    cases re with
    | non hs =>
      obtain ⟨fo, h1, h2⟩ := outs_rep e1 hs (by simpa using hl) fun j hj => by
        have := h (j + 1) (by simpa using hj)
        simpa using this
      exact ⟨fo, h1, h2⟩
    | som hm hs =>
      obtain ⟨fo, h1, h2⟩ := outs_rep e1 hs (by simpa using hl) fun j hj => by
        have := h (j + 1) (by simpa using hj)
        simpa using this
      exact ⟨fo, h1, h2.trans (List.sublist_append_right _ _)⟩
/-- the def's body run: size, how many slots; n of them parameters -/
def runF (n size : Nat) (br : List Bool) (f : Env → R Fl) (ms : List M) : RF :=
  if ms.length = n then match f (ms.map some ++ List.replicate (size - n) none) with
    | .ok (.rt m) e => match outs br e with
      | some os => .ok m os
      | none => .stuck
    | .ok .nx e => match outs br e with
      | some os => .ok (.d .none) os
      | none => .stuck
    | .err x e => match outs br e with
      | some os => .err x os
      | none => .stuck
    | _ => .stuck
  else .stuck
def freeOf (br : List Bool) (asg : List Nat) : Bool := asg.all fun j => br[j]? != some true
/-- a def's promise where no repr is under way -/
structure FnG (P : Program) (w : World) (K : PySem.W.Frag) (mg : Str → Option Value) (base : Heap) (CX : CXT) (k : Nat) (f : Addr) (fd : FuncData) (ps : List Str) (sp : Sp) : Prop where
  len : ∀ vs H Q E, sp vs H Q E → vs.length = ps.length
  go : ∀ (A : Around) (outer : List PySem.Env) (s : Shared) (H : Hp) (args : Args) (us : List Value) (vs : List V) (Q : VK) (E : XK), A.guards = some [] → Room k A → Env0 P w K mg base A outer s H → BindsTo s fd args (ps.zip us) → Vals vs us →
    sp vs H Q E → codeAny (model P w) A (.call (.ref f) args) (CR CX outer P w H s Q E) s
section
variable {P : Program} {w : World} {K : PySem.W.Frag} {mg : Str → Option Value} {base : Heap}
/-- a def by its body -/
theorem fn_g {x qual : Str} {st : Stmt} {f : Addr} {fd : FuncData} {N ps : List Str} {k : Nat} {sp : Sp} (Fn : Fun K x qual st f fd) (S : FnScope N ps (defScope st)) (len : ∀ vs H Q E, sp vs H Q E → vs.length = ps.length)
    (body : ∀ (cdv : Value) (A : Around) (outer : List PySem.Env) (s : Shared) (H : Hp) (vs : List V) (Q : VK) (E : XK), A.guards = some [] → Room k (A.deeper (envOfC qual (defScope st) s.heap.objs.size f cdv)) → sp vs H Q E →
      ∃ t, PSs (cxOf (L2.CX P w) P w K mg base N qual (defScope st) f cdv A outer s H E) (defBody st) t ∧ t { nx := fun _ H' => Q .non H', rt := Q } (L2.start N vs) H) : FnG P w K mg base (L2.CX P w) (k + 1) f fd ps sp := by
  obtain ⟨oc, od, kV, doc, pm, an, cdv, ct, osl, rfl, look, hcode⟩ := Fn.ex
  constructor
  · exact len
  · intro A outer s H args us vs Q E hgu room e0 hbind hv hsp
    have inH : K.In s.heap := e0.mod.kin.keeps (fun b o hb => (e0.bs b o hb).1)
    have kinds : ∀ y ∈ ps.zip us, (defScope st).names.lookup y.1 = some .local ∨ ((defScope st).names.lookup y.1 = some .cell ∧ ((cellsFrom (s.heap.objs.size + 1) (defScope st).names []).lookup y.1).isSome = true) := by
      intro y hy
      have hy1 : y.1 ∈ ps := (List.of_mem_zip (a := y.1) (b := y.2) hy).1
      exact (S.par y.1 hy1).imp id (fun c => ⟨c, PySem.W.cellsFrom_some _ _ _ (.inl c)⟩)
    apply codeAny_call_function room.depth (inH _ _ look) rfl S.co S.gen rfl (PySem.W.codeRec_of inH hcode)
    apply hbind
    apply wpAny_newFunctionEnv_cells S.kind kinds
    rintro env rfl s1 inC
    have lim : s.heap.NoLimit := e0.mod.nolimit.keeps (fun b o hb => (e0.bs b o hb).1)
    refine ⟨lim.keeps inC.toInCall.keep, codeAny_func ?_⟩
    obtain ⟨t, pt, ht⟩ := body cdv A outer s H vs Q E hgu (room.deeper _) hsp
    have I := inv_start (CX := L2.CX P w) (mg := mg) (base := base) (E := E) S room.hd e0 (len _ _ _ _ hsp) hv inC
    refine wpAny_mono (pt.run [] s1 (L2.start N vs) H _ I ht) ?_ (fun e s' hs => hs)
    intro fl s' hs
    match fl, hs with
    | .ret u, hs =>
      obtain ⟨v, σ', H', J, rv, q⟩ := hs
      exact ⟨v, H', J.os, J.bare, J.base, J.hok, rv, q⟩
    | .next, hs =>
      obtain ⟨σ', H', J, q⟩ := hs
      exact ⟨V.non, H', J.os, J.bare, J.base, J.hok, (show RelV V.non Value.none from rfl), q⟩
    | .brk, hs => exact hs.elim fun _ h => h.elim fun _ h => False.elim h.2
    | .cont, hs => exact hs.elim fun _ h => h.elim fun _ h => False.elim h.2
/-- a def that may be called by its name -/
structure DCal (P : Program) (w : World) (K : PySem.W.Frag) (mg : Str → Option Value) (base : Heap) (k : Nat) (x : Str) (st : Stmt) (ps : List Str) (br : List Bool) (F : List M → RF) : Prop where
  ex : ∃ (f : Addr) (fd : FuncData) (doc pm cdv ct kV : Value) (an : Option Addr), FnG P w K mg base (L2.CX P w) k f fd ps (spD K mg ps.length br F) ∧ mg x = some (.ref f) ∧ PySem.W.keepIn K (.ref f) = true ∧ Binds K fd ps [] ∧
    fd = PySem.W.fnOf x x (defArgs st) (defBody st) (defScope st) .none kV doc pm an cdv ct
end
section
variable {X : Cx} {k : Nat} {f : Addr} {fd : FuncData} {ps : List Str} {sp : Sp} {E : St → XK} {x : Str} {p pos : Pos} {e : Expr} {es : List Expr} {t : TA}
theorem run_g {pins : List (Addr × Obj)} {σ : St} {H : Hp} {s : Shared} {Q : VK} {args : Args} {us : List Value} {vs : List V} (F : FnG X.prog X.w X.K X.mg X.base (L2.CX X.prog X.w) k f fd ps sp) (hgu : X.A.guards = some []) (hr : Room k X.A) (hb : BindsTo s fd args (ps.zip us))
    (hx : PassesAt (L2.CX X.prog X.w) X σ (E σ)) (I : Inv X pins σ H s) (r : Vals vs us) (h : sp vs H Q (E σ)) : codeAny (model X.prog X.w) X.A (.call (.ref f) args) (fun r s' => match r with
      | .ok (.ret u) => EP X pins σ Q u s'
      | .ok _ => False
      | .error e => X.xe e s') s := by
  refine codeAny_mono (F.go X.A X.stack s H args us vs Q (E σ) hgu hr I.env0 hb r h) ?_
  intro r s' hq
  match r, hq with
  | .error e, hq => exact hx pins H s e s' I hq
  | .ok (.ret u), hq => exact I.after hq
  | .ok .next, hq => exact hq
  | .ok .brk, hq => exact hq
  | .ok .cont, hq => exact hq
theorem wp_g {pins : List (Addr × Obj)} {σ : St} {H : Hp} {s : Shared} {Q : VK} {us0 : List Value} {kw : List (Str × Value)} {us : List Value} {vs : List V} (F : FnG X.prog X.w X.K X.mg X.base (L2.CX X.prog X.w) k f fd ps sp) (hgu : X.A.guards = some []) (hr : Room k X.A) (hb : BindsTo s fd ⟨us0, kw⟩ (ps.zip us))
    (hx : PassesAt (L2.CX X.prog X.w) X σ (E σ)) (I : Inv X pins σ H s) (r : Vals vs us) (h : sp vs H Q (E σ)) : wpAny (model X.prog X.w) X.A (call (.ref f) us0 kw) (EP X pins σ Q) X.xe s := by
  refine wpAny_call (codeAny_mono (run_g F hgu hr hb hx I r h) ?_)
  intro r s' hq
  match r, hq with
  | .error e, hq => exact hq
  | .ok (.ret u), hq => exact hq
  | .ok .next, hq => exact False.elim hq
  | .ok .brk, hq => exact False.elim hq
  | .ok .cont, hq => exact False.elim hq
theorem pe_callG (F : FnG X.prog X.w X.K X.mg X.base (L2.CX X.prog X.w) k f fd ps sp) (hgu : X.A.guards = some []) (hr : Room k X.A) (hg : Gl X x) (hm : X.mg x = some (.ref f)) (hk : PySem.W.keepIn X.K (.ref f) = true) (hb : Binds X.K fd ps []) (hx : ∀ σ, PassesAt (L2.CX X.prog X.w) X σ (E σ))
    (ha : PA X (e :: es) t) (hdb : (x == ("__debug__" : Str)) = false := by decide) (he : starEach (e :: es) X.env = (false, eval e X.env) :: starEach es X.env := by rfl) (hpl : (backTo pos (starEach es X.env)).any (·.1) = false := by rfl) :
    PE X (.Call (.Name x p) (e :: es) [] pos) (tCallS sp E t) := by
  constructor
  intro pins s σ H Q I h
  apply wpAny_Call_Name_kw
  apply ld_glob I hg hm _ hdb
  apply PySem.W.callWith_K (h₀ := X.base) I.ok.mod.kin hk _ he hpl
  apply thn (ha.run pos pins s σ H _ I h)
  rintro us s1 ⟨vs, H1, I1, r, q⟩
  refine ⟨I1.kIn, ?_⟩
  have hl : us.length = ps.length := by rw [← r.length]; exact F.len _ _ _ _ q
  have b := hb s1 us I1.kIn (by rw [List.append_nil]; exact hl)
  rw [List.append_nil] at b
  exact wp_g F hgu hr b (hx σ) I1 r q
/-- f(k = b, ..): every argument by its name; g puts them in the parameters' order -/
structure KwB (K : PySem.W.Frag) (fd : FuncData) (ps ks : List Str) (is : List Nat) : Prop where
  to : ∀ (s : Shared) (ws us : List Value), K.In s.heap → ws.length = ks.length → is.mapM (fun i => ws[i]?) = some us → BindsTo s fd ⟨[], ks.zip ws⟩ (ps.zip us)
theorem vals_perm {vs : List V} {us : List Value} (r : Vals vs us) : ∀ {is : List Nat} {ws : List V}, is.mapM (fun i => vs[i]?) = some ws → ∃ us', is.mapM (fun i => us[i]?) = some us' ∧ Vals ws us'
  | [], ws, h => by
    cases h
    exact ⟨[], rfl, .nil⟩
  | i :: is, ws, h => by
    rw [List.mapM_cons] at h
    obtain ⟨a, h1, h2⟩ := Option.bind_eq_some_iff.mp h
    obtain ⟨b, h3, h4⟩ := Option.bind_eq_some_iff.mp h2
    cases h4
    obtain ⟨u, hu, ru⟩ := r.get h1
    obtain ⟨us', e, rr⟩ := vals_perm r h3
    refine ⟨u :: us', ?_, .cons ru rr⟩
    rw [List.mapM_cons, hu, e]
    rfl
def tCallKw (n : Nat) (is : List Nat) (sp : Sp) (E : St → XK) (t : TA) : TE := fun σ H Q => t σ H fun vs H1 => vs.length = n ∧ ∃ ws, is.mapM (fun i => vs[i]?) = some ws ∧ sp ws H1 Q (E σ)
theorem pe_callGK {kws : List Keyword} {ks : List Str} {is : List Nat} (F : FnG X.prog X.w X.K X.mg X.base (L2.CX X.prog X.w) k f fd ps sp) (hgu : X.A.guards = some []) (hr : Room k X.A) (hg : Gl X x) (hm : X.mg x = some (.ref f)) (hk : PySem.W.keepIn X.K (.ref f) = true)
    (hx : ∀ σ, PassesAt (L2.CX X.prog X.w) X σ (E σ)) (hb : KwB X.K fd ps ks is) (hkw : PK X kws t) (hall : (backToKw pos (keywordEach kws X.env)).all (·.1.isSome) = true := by rfl) (hks : (backToKw pos (keywordEach kws X.env)).filterMap (·.1) = ks := by rfl)
    (hdb : (x == ("__debug__" : Str)) = false := by decide) (hpl : ((backTo pos (starEach [] X.env)).any (·.1) || (backToKw pos (keywordEach kws X.env)).any (·.1.isNone)) = false := by rfl) :
    PE X (.Call (.Name x p) [] kws pos) (tCallKw ks.length is sp E t) := by
  constructor
  intro pins s σ H Q I h
  apply wpAny_Call_Name_kw
  apply ld_glob I hg hm _ hdb
  apply PySem.W.callWith_KW0 (h₀ := X.base) I.ok.mod.kin hk hall _ hpl
  apply thn (hkw.run pos pins s σ H _ I h)
  rintro us s1 ⟨vs, H1, I1, r, hl, ws, hw, q⟩
  refine ⟨I1.kIn, ?_⟩
  rw [hks]
  obtain ⟨us', e, rr⟩ := vals_perm r hw
  exact wp_g F hgu hr (hb.to s1 us us' I1.kIn (by rw [← r.length]; exact hl) e) (hx σ) I1 rr q
end
section
variable {P : Program} {w : World} {K : PySem.W.Frag} {mg : Str → Option Value} {base : Heap}
/-- THE RULE for a def -/
theorem fn_data {x qual : Str} {st : Stmt} {f : Addr} {fd : FuncData} {N ps : List Str} {k : Nat} {br : List Bool} {asg : List Nat} {fb : Env → R Fl} (Fn : Fun K x qual st f fd) (S : FnScope N ps (defScope st))
    (hbl : br.length = ps.length := by rfl) (hbr : freeOf br asg = true := by decide)
    (body : ∀ (cdv : Value) (A : Around) (outer : List PySem.Env) (s : Shared) (H : Hp) (E : XK), A.guards = some [] → Room k (A.deeper (envOfC qual (defScope st) s.heap.objs.size f cdv)) →
      DSs (cxOf (L2.CX P w) P w K mg base N qual (defScope st) f cdv A outer s H E) (fun cls d _ H => E cls d H) (defBody st) asg fb) :
    FnG P w K mg base (L2.CX P w) (k + 1) f fd ps (spD K mg ps.length br (runF ps.length N.length br fb)) := by
  refine fn_g Fn S (fun vs H Q E h => ?_) (fun cdv A outer s H vs Q E hgu hr h => ?_)
  · obtain ⟨F0, ms, fp, h1, _, _, r, _⟩ := h
    rw [r.length, h1]
  · obtain ⟨F0, ms, fp, h1, hbl, w0, r, h⟩ := h
    obtain ⟨t, p, kk⟩ := body cdv A outer s H E hgu hr
    refine ⟨t, p, ?_⟩
    have hl : vs.length = ps.length := by rw [r.length, h1]
    have re := r.env (N.length - ps.length)
    have es : L2.start N vs = vs.map some ++ List.replicate (N.length - ps.length) none := by unfold L2.start; rw [hl]
    rw [es]
    unfold runF at h
    rw [if_pos h1] at h
    have free : ∀ {σ' : St}, Agree asg (vs.map some ++ List.replicate (N.length - ps.length) none) σ' → ∀ j, br[j]? = some true → σ'[j]? = (vs.map some)[j]? := fun {σ'} ag j hj => by
      have hj' : j ∉ asg := fun z => by
        have := List.all_eq_true.mp hbr j z
        rw [hj] at this
        simp at this
      rw [ag.2 j hj']
      have hlt : j < br.length := (List.getElem?_eq_some_iff.mp hj).1
      rw [List.getElem?_append_left (by rw [List.length_map]; omega)]
    have dn : ∀ {F' H' : Hp} {fq fp' fo : List Addr}, Ev F0 H fp F' H' (fq ++ fp') → Wd F' H' (fq ++ fp') → fo.Sublist fp' → Ev F0 H fp F' H' (fq ++ fo) ∧ Wd F' H' (fq ++ fo) := fun {F' H' fq fp' fo} y w sb => by
      have sb2 : (fq ++ fo).Sublist (fq ++ fp') := sb.append_left _
      exact ⟨y.trans (Ev.sub fun a ha => sb2.subset ha), w.sub sb2⟩
    refine kk _ _ F0 H fp _ w0 re ?_
    cases hf : fb (ms.map some ++ List.replicate (N.length - ps.length) none) with
    | stuck => rw [hf] at h; exact h
    | err x e =>
      rw [hf] at h
      dsimp only at h
      cases ho : outs br e with
      | none => rw [ho] at h; exact False.elim h
      | some os =>
        rw [ho] at h
        intro cls dd σ' F' H' fp' y w re rx ag
        obtain ⟨fo, h2, sb⟩ := outs_rep ho re (by omega) (free ag)
        obtain ⟨y2, w2⟩ := dn (fq := []) y w sb
        exact h cls dd F' H' fo y2 w2 rx h2
    | ok fl e =>
      rw [hf] at h
      cases fl with
      | bk => exact False.elim h
      | ct => exact False.elim h
      | nx =>
        dsimp only at h
        cases ho : outs br e with
        | none => rw [ho] at h; exact False.elim h
        | some os =>
          rw [ho] at h
          intro σ' F' H' fp' y w re ag
          obtain ⟨fo, h2, sb⟩ := outs_rep ho re (by omega) (free ag)
          obtain ⟨y2, w2⟩ := dn (fq := []) y w sb
          exact h .non F' H' [] fo y2 w2 (.d .non) h2
      | rt m =>
        dsimp only at h
        cases ho : outs br e with
        | none => rw [ho] at h; exact False.elim h
        | some os =>
          rw [ho] at h
          intro v σ' F' H' fq fp' y w re rm ag
          obtain ⟨fo, h2, sb⟩ := outs_rep ho re (by omega) (free ag)
          obtain ⟨y2, w2⟩ := dn y w sb
          exact h v F' H' fq fo y2 w2 rm h2
theorem dcal_of {x : Str} {st : Stmt} {f : Addr} {fd : FuncData} {ps : List Str} {k : Nat} {br : List Bool} {F : List M → RF} (Fn : Fun K x x st f fd) (hm : mg x = some (.ref f)) (b : Binds K fd ps [])
    (ok : FnG P w K mg base (L2.CX P w) k f fd ps (spD K mg ps.length br F)) : DCal P w K mg base k x st ps br F := by
  obtain ⟨oc, od, kV, doc, pm, an, cdv, ct, osl, e, lk, hcd⟩ := Fn.ex
  exact ⟨f, fd, doc, pm, cdv, ct, kV, an, ok, hm, Fn.kp, b, e⟩
end

/-! ### a call -/
def isS : Arg → Bool
  | .s _ => true
  | .d _ => false
def slotsOf : List Arg → List Nat
  | [] => []
  | .s i :: r => i :: slotsOf r
  | .d _ :: r => slotsOf r
def argMs (env : Env) : List Arg → Option (List M)
  | [] => some []
  | .d x :: r => (argMs env r).map (.d x :: ·)
  | .s i :: r => match slot env i with
    | some m => (argMs env r).map (m :: ·)
    | none => none
def clrE (env : Env) : List Nat → Env
  | [] => env
  | i :: r => clrE (env.set i none) r
def putE (env : Env) : List Nat → List M → Env
  | i :: is, m :: ms => putE (env.set i (some m)) is ms
  | _, _ => env
def callA (br : List Bool) (F : List M → RF) (as : List Arg) (e : Env) : R M :=
  if (slotsOf as).Nodup ∧ as.map isS = br then match argMs e as with
    | none => .stuck
    | some ms => match F ms with
      | .stuck => .stuck
      | .ok m os => .ok m (putE (clrE e (slotsOf as)) (slotsOf as) os)
      | .err x os => .err x (putE (clrE e (slotsOf as)) (slotsOf as) os)
  else .stuck
theorem slot_clr {env : Env} : ∀ {is : List Nat} {j : Nat}, j ∉ is → slot (clrE env is) j = slot env j := by
  intro is
  induction is generalizing env with
  | nil => intro _ _; rfl
  | cons i is ih =>
    intro j h
    unfold clrE
    rw [ih fun z => h (List.mem_cons_of_mem _ z), slot_set_ne fun z => h (by rw [z]; exact List.mem_cons_self)]
theorem slot_set_none {env : Env} {i j : Nat} (h : slot env j = none) : slot (env.set i none) j = none := by
  by_cases e : i = j
  · subst e
    by_cases hl : i < env.length
    · simp [slot, hl]
    · have z : (env.set i none)[i]? = none := List.getElem?_eq_none (by rw [List.length_set]; omega)
      simp [slot, z]
  · rw [slot_set_ne e]; exact h
theorem slot_clr_in {env : Env} : ∀ {is : List Nat} {j : Nat}, (j ∈ is ∨ slot env j = none) → slot (clrE env is) j = none := by
  intro is
  induction is generalizing env with
  | nil => intro j h; exact h.resolve_left (by simp)
  | cons i is ih =>
    intro j h
    unfold clrE
    refine ih ?_
    by_cases e : i = j
    · subst e
      right
      by_cases hl : i < env.length
      · simp [slot, hl]
      · have z : (env.set i none)[i]? = none := List.getElem?_eq_none (by rw [List.length_set]; omega)
        simp [slot, z]
    · rcases h with h | h
      · exact .inl ((List.mem_cons.mp h).resolve_left fun z => e z.symm)
      · right; rw [slot_set_ne e]; exact h
theorem argMs_set {env : Env} {i : Nat} : ∀ {as : List Arg}, i ∉ slotsOf as → argMs (env.set i none) as = argMs env as
  | [], _ => rfl
  | .d x :: r, h => by
    unfold argMs
    rw [argMs_set (as := r) h]
  | .s j :: r, h => by
    unfold argMs
    have hj : i ≠ j := fun z => h (by rw [z]; exact List.mem_cons_self)
    rw [slot_set_ne hj, argMs_set (as := r) fun z => h (List.mem_cons_of_mem _ z)]
/-- the arguments taken out of the slots -/
theorem take_args {K : PySem.W.Frag} {F H : Hp} {σ : St} : ∀ {as : List Arg} {vs : List V} {env : Env} {fp : List Addr} {ms : List M}, RpA K F σ vs as → RpE K F H env σ fp → (slotsOf as).Nodup → argMs env as = some ms →
    ∃ fa fr, RpMs K F H vs ms fa ∧ RpE K F H (clrE env (slotsOf as)) σ fr ∧ (fa ++ fr).Perm fp
  | [], _, env, fp, ms, .nil, re, _, e => by
    simp only [argMs, Option.some.injEq] at e
    subst e
    exact ⟨[], fp, .nil, re, List.Perm.refl _⟩
  | .d x :: r, _, env, fp, ms, .d rx ra, re, nd, e => by
    simp only [argMs, Option.map_eq_some_iff] at e
    obtain ⟨ms', e1, rfl⟩ := e
    obtain ⟨fa, fr, h1, h2, h3⟩ := take_args ra re nd e1
    exact ⟨fa, fr, .cons (f1 := []) (.d rx) h1, h2, h3⟩
  | .s i :: r, _, env, fp, ms, .s hv ra, re, nd, e => by
    have nd' := List.nodup_cons.mp nd
    unfold argMs at e
    split at e
    · rename_i m hm
      rw [Option.map_eq_some_iff] at e
      obtain ⟨ms', e1, rfl⟩ := e
      obtain ⟨v, fq, fr, g1, g2, g3, g4⟩ := re.take hm
      rw [hv] at g1
      cases g1
      obtain ⟨fa, fr', h1, h2, h3⟩ := take_args ra g3 nd'.2 (by rw [argMs_set nd'.1]; exact e1)
      refine ⟨fq ++ fa, fr', .cons g2 h1, h2, ?_⟩
      rw [List.append_assoc]
      exact (List.Perm.append_left fq h3).trans g4
    · cases e
/-- .. and put back -/
theorem put_args {K : PySem.W.Frag} {F H : Hp} {σ : St} : ∀ {as : List Arg} {vs : List V} {env : Env} {fr fo : List Addr} {os : List M} {F0 : Hp}, RpA K F0 σ vs as → RpE K F H env σ fr → (slotsOf as).Nodup → (∀ j ∈ slotsOf as, slot env j = none) →
    RpMs K F H (pick (as.map isS) vs) os fo → ∃ fp, RpE K F H (putE env (slotsOf as) os) σ fp ∧ fp.Perm (fo ++ fr)
  | [], vs, env, fr, fo, os, _, ra, re, nd, hn, ro => by
    cases ra
    cases ro
    exact ⟨fr, re, List.Perm.refl _⟩
  | .d x :: r, _, env, fr, fo, os, _, .d rx ra, re, nd, hn, ro => put_args (as := r) ra re nd hn ro
  | .s i :: r, _, env, fr, fo, os, _, .s hv ra, re, nd, hn, ro => by
    have nd' := List.nodup_cons.mp nd
    cases ro with
    | cons rm rs =>
      rename_i m ms f1 f2
      obtain ⟨fp1, h1, h2⟩ := re.put (i := i) (hn i List.mem_cons_self) hv rm
      obtain ⟨fp2, h3, h4⟩ := put_args (as := r) ra h1 nd'.2 (fun j hj => by
        rw [slot_set_ne fun z => nd'.1 (by rw [z]; exact hj)]
        exact hn j (List.mem_cons_of_mem _ hj)) rs
      refine ⟨fp2, h3, h4.trans ?_⟩
      refine (List.Perm.append_left f2 h2).trans ?_
      rw [← List.append_assoc]
      exact List.Perm.append_right fr List.perm_append_comm
theorem RpA.length {K : PySem.W.Frag} {F : Hp} {σ : St} : ∀ {vs : List V} {as : List Arg}, RpA K F σ vs as → vs.length = as.length
  | _, _, .nil => rfl
  | _, _, .d _ h => by rw [List.length_cons, List.length_cons, RpA.length h]
  | _, _, .s _ h => by rw [List.length_cons, List.length_cons, RpA.length h]
def fCall (br : List Bool) (F : List M → RF) (fa : Env → R (List Arg)) : Env → R M := fun env => (fa env).bind (callA br F)
section
variable {X : Cx} {W : WX}
/-- the call's own reading -/
theorem call_post {σ : St} {F H : Hp} {fp : List Addr} {Q : VK} {br : List Bool} {G : List M → RF} {as : List Arg} {vs : List V} {env : Env} {n : Nat} (w : Wd F H fp) (re : RpE X.K F H env σ fp) (ra : RpA X.K F σ vs as) (hl : br.length = n)
    (q : Post X W σ F H fp (repM X.K) Q (callA br G as env)) : spD X.K X.mg n br G vs H Q (fun cls d H' => W cls d σ H') := by
  unfold callA at q
  split at q
  · rename_i hc
    obtain ⟨nd, hb⟩ := hc
    cases ha : argMs env as with
    | none => rw [ha] at q; exact False.elim q
    | some ms =>
      rw [ha] at q
      dsimp only at q
      obtain ⟨fa, fr, r1, r2, pm⟩ := take_args ra re nd ha
      have w1 : Wd F H (fa ++ fr) := w.perm pm
      have nd1 := List.nodup_append.mp w1.nd
      have hlen : ms.length = n := by
        rw [← r1.length, ← hl, ← hb, List.length_map, ra.length]
      -- what stands beside
      have side : ∀ {F' H' : Hp} {fx : List Addr}, Ev F H fa F' H' fx → Wd F' H' fx → Wd F' H' (fx ++ fr) ∧ Ev F H fp F' H' (fx ++ fr) ∧ RpE X.K F' H' (clrE env (slotsOf as)) σ fr := fun {F' H' fx} y w' => by
        have nfa : ∀ a ∈ fr, a ∉ fa := fun a ha hq => nd1.2.2 a hq a ha rfl
        have th : ∀ a ∈ fr, ∃ o, H a = some o := fun a ha => re.there a (pm.mem_iff.mp (List.mem_append_right _ ha))
        have nfx : ∀ a ∈ fr, a ∉ fx := fun a ha hq => by
          rcases y.own a hq with z | z
          · exact nfa a ha z
          · obtain ⟨o, e⟩ := th a ha
            rw [z] at e; cases e
        refine ⟨⟨w'.le, List.nodup_append.mpr ⟨w'.nd, nd1.2.1, fun a ha b hb z => nfx b hb (by rw [← z]; exact ha)⟩, fun a ha => ?_⟩, (y.frame (fr := fr)).perm (fun a => pm.mem_iff) (fun _ h => h), r2.mono y.frz fun a ha o e => y.keep a o e (nfa a ha)⟩
        rcases List.mem_append.mp ha with z | z
        · exact w'.off a z
        · cases e : F' a with
          | none => rfl
          | some o =>
            rcases y.new a o e with q | q | q
            · rw [w1.off a (List.mem_append_right _ z)] at q; cases q
            · exact absurd q (nfa a z)
            · obtain ⟨u, hu⟩ := th a z
              rw [q] at hu; cases hu
      have wa : Wd F H fa := w1.sub (List.sublist_append_left _ _)
      have cl : ∀ j ∈ slotsOf as, slot (clrE env (slotsOf as)) j = none := fun j hj => slot_clr_in (.inl hj)
      refine ⟨F, ms, fa, hlen, hl, wa, r1, ?_⟩
      cases hG : G ms with
      | stuck => rw [hG] at q; exact q
      | ok m os =>
        rw [hG] at q
        intro v F' H' fq fo y w' rm ro
        obtain ⟨w2, y2, re2⟩ := side y w'
        rw [← hb] at ro
        obtain ⟨fp3, re3, pm3⟩ := put_args (F0 := F) ra re2 nd cl ro
        have pm4 : (fq ++ fp3).Perm ((fq ++ fo) ++ fr) := by
          rw [List.append_assoc]
          exact List.Perm.append_left fq pm3
        exact q v F' H' fq fp3 (y2.perm (fun _ => Iff.rfl) fun a ha => pm4.mem_iff.mp ha) (w2.perm pm4) re3 rm
      | err x os =>
        rw [hG] at q
        intro cls dd F' H' fo y w' rx ro
        obtain ⟨w2, y2, re2⟩ := side y w'
        rw [← hb] at ro
        obtain ⟨fp3, re3, pm3⟩ := put_args (F0 := F) ra re2 nd cl ro
        exact q cls dd F' H' fp3 (y2.perm (fun _ => Iff.rfl) fun a ha => pm3.mem_iff.mp ha) (w2.perm pm3) re3 rx
  · exact False.elim q
variable {k j : Nat} {x : Str} {st : Stmt} {ps : List Str} {br : List Bool} {G : List M → RF} {p pos : Pos} {e : Expr} {es : List Expr} {fr fk : Env → R (List Arg)} {P : Program} {w : World} {K : PySem.W.Frag} {mg : Str → Option Value} {base : Heap}
theorem em_call (c : DCal X.prog X.w X.K X.mg X.base k x st ps br G) (hgu : X.A.guards = some []) (hr : Room j X.A) (hk : k ≤ j) (tk : Takes X W) (ha : EA X W (e :: es) fr) (hbl : br.length = ps.length := by rfl) (hg : Gl X x := by rfl) (hdb : (x == ("__debug__" : Str)) = false := by decide)
    (he : starEach (e :: es) X.env = (false, eval e X.env) :: starEach es X.env := by rfl) (hpl : (backTo pos (starEach es X.env)).any (·.1) = false := by rfl) : EM X W (.Call (.Name x p) (e :: es) [] pos) (fCall br G fr) := by
  obtain ⟨f, fd, doc, pm, cdv, ct, kV, an, F, hm, kp, b, ed⟩ := c.ex
  obtain ⟨t, pa, ka⟩ := ha
  refine ⟨_, pe_callG F hgu (hr.mono hk) hg hm kp b (E := WE W) (fun σ => passAt tk σ) pa hdb he hpl, fun env σ F H fp Q w re q => ?_⟩
  refine ka env σ F H fp _ w re (Post.seq (rep1 := repA X.K σ) q fun as env1 vs F1 H1 fq fp1 y w1 re1 r1 q1 => ?_)
  obtain ⟨rfl, r1⟩ := r1
  exact call_post w1 re1 r1 hbl q1
theorem RpA.get {K : PySem.W.Frag} {F : Hp} {σ : St} : ∀ {vs : List V} {as : List Arg} {i : Nat} {a : Arg}, RpA K F σ vs as → as[i]? = some a → ∃ v, vs[i]? = some v ∧ RpA K F σ [v] [a]
  | _, _, i, _, .nil, h => by simp at h
  | _, _, 0, _, .d r _, h => by
    simp at h
    subst h
    exact ⟨_, rfl, .d r .nil⟩
  | _, _, 0, _, .s r _, h => by
    simp at h
    subst h
    exact ⟨_, rfl, .s r .nil⟩
  | _, _, i + 1, _, .d _ rs, h => RpA.get (i := i) rs (by simpa using h)
  | _, _, i + 1, _, .s _ rs, h => RpA.get (i := i) rs (by simpa using h)
theorem RpA.perm {K : PySem.W.Frag} {F : Hp} {σ : St} {vs : List V} {as : List Arg} (r : RpA K F σ vs as) : ∀ {is : List Nat} {as' : List Arg}, is.mapM (fun i => as[i]?) = some as' → ∃ ws, is.mapM (fun i => vs[i]?) = some ws ∧ RpA K F σ ws as'
  | [], _, h => by
    cases h
    exact ⟨[], rfl, .nil⟩
  | i :: is, _, h => by
    rw [List.mapM_cons] at h
    obtain ⟨a, h1, h2⟩ := Option.bind_eq_some_iff.mp h
    obtain ⟨b, h3, h4⟩ := Option.bind_eq_some_iff.mp h2
    cases h4
    obtain ⟨u, hu, ru⟩ := r.get h1
    obtain ⟨us', e, rr⟩ := r.perm h3
    refine ⟨u :: us', ?_, ?_⟩
    · rw [List.mapM_cons, hu, e]
      rfl
    · cases ru with
      | d q _ => exact .d q rr
      | s q _ => exact .s q rr
/-- by names alone -/
def fCallK (br : List Bool) (G : List M → RF) (n : Nat) (is : List Nat) (fk : Env → R (List Arg)) : Env → R M := fun env => (fk env).bind fun as e => if as.length = n then match is.mapM (fun i => as[i]?) with
  | some as' => callA br G as' e
  | none => .stuck
  else .stuck
theorem em_callK {kws : List Keyword} {ks : List Str} {is : List Nat} (c : DCal X.prog X.w X.K X.mg X.base k x st ps br G) (hgu : X.A.guards = some []) (hr : Room j X.A) (hk : k ≤ j) (tk : Takes X W) (ha : EK X W kws fk) 
    (hb : ∀ kV doc pm an cdv ct, KwB X.K (PySem.W.fnOf x x (defArgs st) (defBody st) (defScope st) .none kV doc pm an cdv ct) ps ks is)
    (hbl : br.length = ps.length := by rfl) (hg : Gl X x := by rfl) (hdb : (x == ("__debug__" : Str)) = false := by decide)
    (hall : (backToKw pos (keywordEach kws X.env)).all (·.1.isSome) = true := by rfl) (hks : (backToKw pos (keywordEach kws X.env)).filterMap (·.1) = ks := by rfl)
    (hpl : ((backTo pos (starEach [] X.env)).any (·.1) || (backToKw pos (keywordEach kws X.env)).any (·.1.isNone)) = false := by rfl) : EM X W (.Call (.Name x p) [] kws pos) (fCallK br G ks.length is fk) := by
  obtain ⟨f, fd, doc, pm, cdv, ct, kV, an, F, hm, kp, b, rfl⟩ := c.ex
  obtain ⟨t, pa, ka⟩ := ha
  refine ⟨_, pe_callGK F hgu (hr.mono hk) hg hm kp (E := WE W) (fun σ => passAt tk σ) (hb _ _ _ _ _ _) pa hall hks hdb hpl, fun env σ F H fp Q w re q => ?_⟩
  refine ka env σ F H fp _ w re (Post.seq (rep1 := repA X.K σ) q fun as env1 vs F1 H1 fq fp1 y w1 re1 r1 q1 => ?_)
  obtain ⟨rfl, r1⟩ := r1
  split at q1
  · rename_i hl
    split at q1
    · rename_i as' has
      obtain ⟨ws, h1, h2⟩ := r1.perm has
      exact ⟨by rw [r1.length]; exact hl, ws, h1, call_post w1 re1 h2 hbl q1⟩
    · exact False.elim q1
  · exact False.elim q1
theorem pe_callG0 {f : Addr} {fd : FuncData} {ps : List Str} {sp : Sp} {E : St → XK} (F : FnG X.prog X.w X.K X.mg X.base (L2.CX X.prog X.w) k f fd ps sp) (hgu : X.A.guards = some []) (hr : Room k X.A) (hg : Gl X x) (hm : X.mg x = some (.ref f)) (hk : PySem.W.keepIn X.K (.ref f) = true) (hb : Binds X.K fd ps []) (hx : ∀ σ, PassesAt (L2.CX X.prog X.w) X σ (E σ))
    (hdb : (x == ("__debug__" : Str)) = false := by decide) : PE X (.Call (.Name x p) [] [] pos) (tCallS sp E tNil) := by
  constructor
  intro pins s σ H Q I h
  apply wpAny_Call_Name_kw
  apply ld_glob I hg hm _ hdb
  have hl : ([] : List Value).length = ps.length := F.len [] H Q (E σ) h
  have b := hb s [] I.kIn (by rw [List.append_nil]; exact hl)
  exact PySem.W.callWith_K0 I.kIn hk (wp_g F hgu hr b (hx σ) I .nil h)
def fCall0 (br : List Bool) (G : List M → RF) : Env → R M := callA br G []
theorem em_call0 (c : DCal X.prog X.w X.K X.mg X.base k x st [] [] G) (hgu : X.A.guards = some []) (hr : Room j X.A) (hk : k ≤ j) (tk : Takes X W) (hg : Gl X x := by rfl) (hdb : (x == ("__debug__" : Str)) = false := by decide) :
    EM X W (.Call (.Name x p) [] [] pos) (fCall0 [] G) := by
  obtain ⟨f, fd, doc, pm, cdv, ct, kV, an, F, hm, kp, b, ed⟩ := c.ex
  refine ⟨_, pe_callG0 F hgu (hr.mono hk) hg hm kp b (E := WE W) (fun σ => passAt tk σ) hdb, fun env σ F H fp Q w re q => ?_⟩
  exact call_post (X := X) (n := 0) (br := []) (as := []) w re .nil rfl q
end
end DL
set_option Elab.async false
set_option linter.all false
set_option maxRecDepth 100000
set_option maxHeartbeats 4000000
namespace DL
open PySem PySem.Spec PyProof.Rows L2

/-! ### data that the library's own data rules take -/
mutual
theorem Rp.dp {K : PySem.W.Frag} {H : Hp} : ∀ {v : V} {d : D}, Rp K H v d → PyData.canLay0 d = true → Dp K H v d
  | _, _, .non, _ => .non
  | _, _, .bl b, _ => .bl b
  | _, _, .int i, _ => .int i
  | _, _, .str x, _ => .str x
  | _, _, .lst h hs, c => .lst h (Rps.dp hs (by rw [PyData.canLay0] at c; exact c))
  | _, _, .tup h hs, c => .tup h (Rps.dp hs (by rw [PyData.canLay0] at c; exact c))
  | _, _, .dct _ _, c => by rw [PyData.canLay0] at c; cases c
theorem Rps.dp {K : PySem.W.Frag} {H : Hp} : ∀ {v : List V} {d : List D}, Rps K H v d → PyData.canLayAll0 d = true → DpAll K H v d
  | _, _, .nil, _ => .nil
  | _, _, .cons h hs, c => by
    rw [PyData.canLayAll0, Bool.and_eq_true] at c
    exact .cons (Rp.dp h c.1) (Rps.dp hs c.2)
end
theorem Rp.dpS {K : PySem.W.Frag} {H : Hp} {v : V} {d : D} (r : Rp K H v d) (h : SeqAt.shaped d = true) : Dp K H v d := r.dp (SeqAt.canLay_of_shaped h)

/-! ### + -/
def rCatL (K : PySem.W.Frag) : R2 := fun x y H Q => ∃ a b xs ys, x = .ref a ∧ y = .ref b ∧ SqL K H a xs ∧ SqL K H b ys ∧ xs.length + ys.length ≤ sizeLine ∧ ∀ p, H p = none → Q (.ref p) (upd H p (.lst (xs ++ ys)))
theorem op_catL {X : Cx} : OpR X (binaryOp .Add) (rCatL X.K) := by
  intro pins s σ H x y v u Q I rx ry h
  obtain ⟨a, b, xs, ys, rfl, rfl, ha, hb, hz, q⟩ := h
  cases rx
  cases ry
  obtain ⟨its, r1, p1, _⟩ := I.list ha
  obtain ⟨its2, r2, p2, _⟩ := I.list hb
  obtain ⟨⟨cls, dd, data, sl⟩, n, ho, hc, hdn, hd⟩ := p1
  obtain ⟨⟨cls2, dd2, data2, sl2⟩, n2, ho2, hc2, hdn2, hd2⟩ := p2
  simp only at hc hd hc2 hd2
  subst hc hd hc2 hd2
  have e : its.toArray ++ its2.toArray = (its ++ its2).toArray := by simp
  refine concat_meets ⟨_, ho, rfl⟩ ⟨_, ho2, rfl⟩ noFill_list_add seq_list_add PySem.F.slot_list_add PySem.F.entry_list_add (PySem.F.args_list_add_2 _ _)
    (list_addW a b its.toArray its2.toArray n n2 dd dd2 sl sl2 (by rw [List.size_toArray, List.size_toArray, ← r1.length, ← r2.length]; exact hz)) ⟨ho, ho2, ?_⟩
  rw [e]
  refine ⟨.ref s.heap.objs.size, _, I.laid (t' := s.toks) (o := .lst (xs ++ ys)) (fun c ob z => Heap.get?_push_of_some _ z) (Nat.le_refl _) ?_, rfl, q _ (I.hok.fresh (Nat.le_refl _))⟩
  exact ⟨by rw [List.length_append]; exact hz, _, _, r1.append r2, Heap.get?_push_size _ rfl⟩
def gAdd : D → D → Option D
  | .int i, .int j => some (.int (i + j))
  | .str x, .str y => if x.length + y.length ≤ sizeLine then some (.str (x ++ y)) else none
  | .tuple xs, .tuple ys => if xs.length + ys.length ≤ sizeLine then some (.tuple (xs ++ ys)) else none
  | .list xs, .list ys => if xs.length + ys.length ≤ sizeLine then some (.list (xs ++ ys)) else none
  | _, _ => none
def rAddD (K : PySem.W.Frag) : R2 := fun x y H Q => (((rI0 fun i j => .int (i + j)) x y H Q ∨ (∃ i j, x = .str i ∧ y = .str j ∧ i.length + j.length ≤ sizeLine ∧ Q (.str (i ++ j)) H)) ∨ rCatA K x y H Q) ∨ rCatL K x y H Q
theorem op_addD {X : Cx} : OpR X (binaryOp .Add) (rAddD X.K) := ((op_add.or op_add_str).or op_catA).or op_catL
theorem od_add {K : PySem.W.Frag} : OpD K (rAddD K) gAdd := by
  intro F H x y d e z Q l rx ry h q
  unfold gAdd at h
  split at h
  · cases h
    cases rx
    cases ry
    exact .inl (.inl (.inl ⟨_, _, rfl, rfl, q _ F H (Gr.refl l) (.int _)⟩))
  · split at h
    · rename_i hz
      cases h
      cases rx
      cases ry
      exact .inl (.inl (.inr ⟨_, _, rfl, rfl, hz, q _ F H (Gr.refl l) (.str _)⟩))
    · cases h
  · split at h
    · rename_i hz
      cases h
      cases rx with
      | tup hx rxs =>
        cases ry with
        | tup hy rys =>
          rename_i a xs b ys
          refine .inl (.inr ⟨a, b, xs, ys, rfl, rfl, l.st hx, l.st hy, by rw [rxs.length, rys.length]; exact hz, fun e => ?_, fun _ e => ?_, fun _ _ p hp => ?_⟩)
          · subst e
            cases rxs
            exact q _ F H (Gr.refl l) (.tup hy rys)
          · subst e
            cases rys
            rw [List.append_nil] at q
            exact q _ F H (Gr.refl l) (.tup hx rxs)
          · have g : Gr F H (upd F p (.tup (xs ++ ys))) (upd H p (.tup (xs ++ ys))) := Gr.put l hp
            exact q _ _ _ g (.tup (.inl (.inl upd_same)) ((rxs.app rys).mono g.l1))
    · cases h
  · split at h
    · rename_i hz
      cases h
      cases rx with
      | lst hx rxs =>
        cases ry with
        | lst hy rys =>
          rename_i a xs b ys
          refine .inr ⟨a, b, xs, ys, rfl, rfl, l.sl hx, l.sl hy, by rw [rxs.length, rys.length]; exact hz, fun p hp => ?_⟩
          have g : Gr F H (upd F p (.lst (xs ++ ys))) (upd H p (.lst (xs ++ ys))) := Gr.put l hp
          exact q _ _ _ g (.lst (.inl (.inl upd_same)) ((rxs.app rys).mono g.l1))
    · cases h
  · cases h
section
variable {X : Cx} {W : WX} {pos : Pos} {a b e : Expr} {fa fb : Env → R D}
theorem ev_add (ha : EV X W a fa) (hb : EV X W b fb) : EV X W (.BinOp a .Add b pos) (f2 gAdd fa fb) := ev_op op_addD od_add ha hb
/-! ### the other operators -/
def gI (C : Int → Int → Bool) (f : Int → Int → Int) : D → D → Option D
  | .int i, .int j => if C i j = true then some (.int (f i j)) else none
  | _, _ => none
theorem od_I {K : PySem.W.Frag} {C : Int → Int → Bool} {C' : Int → Int → Prop} {f : Int → Int → Int} (h : ∀ i j, C i j = true → C' i j) : OpD K (rI C' fun i j => .int (f i j)) (gI C f) := by
  intro F H x y d e z Q l rx ry hz q
  unfold gI at hz
  split at hz
  · split at hz
    · rename_i hc
      cases hz
      cases rx
      cases ry
      exact ⟨_, _, rfl, rfl, h _ _ hc, q _ F H (Gr.refl l) (.int _)⟩
    · cases hz
  · cases hz
theorem od_I0 {K : PySem.W.Frag} {f : Int → Int → Int} : OpD K (rI0 fun i j => .int (f i j)) (gI (fun _ _ => true) f) := by
  intro F H x y d e z Q l rx ry hz q
  unfold gI at hz
  split at hz
  · rw [if_pos rfl] at hz
    cases hz
    cases rx
    cases ry
    exact ⟨_, _, rfl, rfl, q _ F H (Gr.refl l) (.int _)⟩
  · cases hz
def gSub : D → D → Option D := gI (fun _ _ => true) fun i j => i - j
theorem ev_sub (ha : EV X W a fa) (hb : EV X W b fb) : EV X W (.BinOp a .Sub b pos) (f2 gSub fa fb) := ev_op op_sub od_I0 ha hb
/-- divisors and factors below these -/
def gDiv : D → D → Option D := gI (fun _ j => decide (0 < j ∧ j.natAbs.log2 < 30)) fun i j => i / j
theorem ev_div (ha : EV X W a fa) (hb : EV X W b fb) : EV X W (.BinOp a .FloorDiv b pos) (f2 gDiv fa fb) := ev_op op_fdiv (od_I fun _ _ h => by have z := of_decide_eq_true h; have y := lt_of_log2 z.2; exact ⟨z.1, by omega⟩) ha hb
def gMod : D → D → Option D := gI (fun _ j => decide (0 < j)) fun i j => i % j
theorem ev_mod (ha : EV X W a fa) (hb : EV X W b fb) : EV X W (.BinOp a .Mod b pos) (f2 gMod fa fb) := ev_op op_mod (od_I fun _ _ h => by have z := of_decide_eq_true h; exact z) ha hb
def gPow : D → D → Option D := gI (fun i j => decide (0 ≤ j ∧ j ≤ 1000000 ∧ i.natAbs < 2 ^ 64)) fun i j => i ^ j.toNat
theorem ev_pow (ha : EV X W a fa) (hb : EV X W b fb) : EV X W (.BinOp a .Pow b pos) (f2 gPow fa fb) := ev_op op_pow (od_I fun _ _ h => by have z := of_decide_eq_true h; exact z) ha hb
/-- one factor below 2 ^ 64; a list so many times; a text so many times stands below -/
def gMul : D → D → Option D
  | .int i, .int j => if i.natAbs.log2 < 64 ∨ j.natAbs.log2 < 64 then some (.int (i * j)) else none
  | _, _ => none
theorem od_mul {K : PySem.W.Frag} : OpD K (rI CMul fun i j => .int (i * j)) gMul := by
  intro F H x y d e z Q l rx ry hz q
  unfold gMul at hz
  split at hz
  · split at hz
    · rename_i hc
      cases hz
      cases rx
      cases ry
      exact ⟨_, _, rfl, rfl, hc.imp (fun h => by have := lt_of_log2 h; omega) (fun h => by have := lt_of_log2 h; omega), q _ F H (Gr.refl l) (.int _)⟩
    · cases hz
  · cases hz
theorem ev_mul (ha : EV X W a fa) (hb : EV X W b fb) : EV X W (.BinOp a .Mult b pos) (f2 gMul fa fb) := ev_op op_mul od_mul ha hb
def gNeg : D → Option D
  | .int i => some (.int (-i))
  | _ => none
theorem ev_neg (ha : EV X W a fa) : EV X W (.UnaryOp .USub a pos) (f1 gNeg fa) := by
  refine ev_un un_neg ?_ ha
  intro F H x d z Q l rx hz q
  unfold gNeg at hz
  split at hz
  · cases hz
    cases rx
    exact ⟨_, rfl, q _ F H (Gr.refl l) (.int _)⟩
  · cases hz

/-! ### comparisons -/
def sLt (x y : Str) : Bool := decide (x.cps.toList < y.cps.toList)
/-- an order of two ints or two texts -/
def gCmp (f : Int → Int → Bool) (g : Str → Str → Bool) : D → D → Option D
  | .int i, .int j => some (.bool (f i j))
  | .str x, .str y => some (.bool (g x y))
  | _, _ => none
def rCmpD (f : Int → Int → Bool) (g : Str → Str → Bool) : R2 := fun x y H Q => (rI0 fun i j => .bl (f i j)) x y H Q ∨ ∃ i j, x = .str i ∧ y = .str j ∧ Q (.bl (g i j)) H
theorem ob_cmp {K : PySem.W.Frag} {f : Int → Int → Bool} {g : Str → Str → Bool} : OpB K (rCmpD f g) (gCmp f g) := by
  intro F H x y d e z Q l rx ry hz q
  unfold gCmp at hz
  split at hz
  · cases hz
    cases rx
    cases ry
    exact .inl ⟨_, _, rfl, rfl, q _ F H (Gr.refl l) (.bl _)⟩
  · cases hz
    cases rx
    cases ry
    exact .inr ⟨_, _, rfl, rfl, q _ F H (Gr.refl l) (.bl _)⟩
  · cases hz
def gLt : D → D → Option D := gCmp (fun i j => decide (i < j)) sLt
def gLe : D → D → Option D := gCmp (fun i j => decide (i ≤ j)) fun x y => !sLt y x
def gGt : D → D → Option D := gCmp (fun i j => decide (j < i)) fun x y => sLt y x
def gGe : D → D → Option D := gCmp (fun i j => decide (j ≤ i)) fun x y => !sLt x y
theorem op_ltD : OpR X (compareOp .Lt) (rCmpD (fun i j => decide (i < j)) sLt) := op_lt.or op_lt_str
theorem op_leD : OpR X (compareOp .LtE) (rCmpD (fun i j => decide (i ≤ j)) fun x y => !sLt y x) := op_le.or op_le_str
theorem op_gtD : OpR X (compareOp .Gt) (rCmpD (fun i j => decide (j < i)) fun x y => sLt y x) := op_gt.or op_gt_str
theorem op_geD : OpR X (compareOp .GtE) (rCmpD (fun i j => decide (j ≤ i)) fun x y => !sLt x y) := op_ge.or op_ge_str
/-- equal data (True is 1) -/
def eqD : D → D → Option Bool
  | .str x, .str y => some (decide (x = y))
  | .int x, .int y => some (decide (x = y))
  | d, e => if SeqAt.shaped d = true ∧ SeqAt.shaped e = true then some (PyData.eqv d e) else none
def gEq : D → D → Option D := fun d e => (eqD d e).map .bool
def gNe : D → D → Option D := fun d e => (eqD d e).map fun b => .bool (!b)
theorem op_eqAll (hu : X.A.units + 64 < cLine) : OpR X (compareOp .Eq) (fun x y H Q => rEq x y H Q ∨ rEqD X.K x y H Q) := op_eq.or (op_eqD hu)
theorem op_neAll (hu : X.A.units + 64 < cLine) : OpR X (compareOp .NotEq) (fun x y H Q => rNe x y H Q ∨ rNeD X.K x y H Q) := op_ne.or (op_neD hu)
theorem ob_eq {K : PySem.W.Frag} : OpB K (fun x y H Q => rEq x y H Q ∨ rEqD K x y H Q) gEq := by
  intro F H x y d e z Q l rx ry hz q
  unfold gEq at hz
  rw [Option.map_eq_some_iff] at hz
  obtain ⟨b, hb, rfl⟩ := hz
  unfold eqD at hb
  split at hb
  · cases hb
    cases rx
    cases ry
    exact .inl ⟨rfl, by rename_i i j; rw [show decide (V.str i = V.str j) = decide (i = j) by simp]; exact q _ F H (Gr.refl l) (.bl _)⟩
  · cases hb
    cases rx
    cases ry
    exact .inl ⟨rfl, by rename_i i j; rw [show decide (V.int i = V.int j) = decide (i = j) by simp]; exact q _ F H (Gr.refl l) (.bl _)⟩
  · split at hb
    · rename_i hs
      cases hb
      exact .inr ⟨d, e, (rx.mono l).dpS hs.1, ry.dpS hs.2, hs.1, hs.2, q _ F H (Gr.refl l) (.bl _)⟩
    · cases hb
theorem ob_ne {K : PySem.W.Frag} : OpB K (fun x y H Q => rNe x y H Q ∨ rNeD K x y H Q) gNe := by
  intro F H x y d e z Q l rx ry hz q
  unfold gNe at hz
  rw [Option.map_eq_some_iff] at hz
  obtain ⟨b, hb, rfl⟩ := hz
  unfold eqD at hb
  split at hb
  · cases hb
    cases rx
    cases ry
    exact .inl ⟨rfl, by rename_i i j; rw [show decide (V.str i = V.str j) = decide (i = j) by simp]; exact q _ F H (Gr.refl l) (.bl _)⟩
  · cases hb
    cases rx
    cases ry
    exact .inl ⟨rfl, by rename_i i j; rw [show decide (V.int i = V.int j) = decide (i = j) by simp]; exact q _ F H (Gr.refl l) (.bl _)⟩
  · split at hb
    · rename_i hs
      cases hb
      exact .inr ⟨d, e, (rx.mono l).dpS hs.1, ry.dpS hs.2, hs.1, hs.2, q _ F H (Gr.refl l) (.bl _)⟩
    · cases hb
/-- is None, is not None; is True .. of a bool -/
def isNonD : D → Bool
  | .none => true
  | _ => false
def gIs : D → D → Option D
  | d, .none => some (.bool (isNonD d))
  | .bool a, .bool b => some (.bool (decide (a = b)))
  | _, _ => none
def gIsNot : D → D → Option D
  | d, .none => some (.bool (!isNonD d))
  | .bool a, .bool b => some (.bool (!decide (a = b)))
  | _, _ => none
theorem op_isAll : OpR X (compareOp .Is) (fun x y H Q => (y = .non ∧ Q (.bl (decide (x = .non))) H) ∨ rIsB x y H Q) := op_isN.or op_isBl
theorem op_isNotAll : OpR X (compareOp .IsNot) (fun x y H Q => (y = .non ∧ Q (.bl (!decide (x = .non))) H) ∨ rNotB x y H Q) := op_notN.or op_notBl
theorem Rp.isN {K : PySem.W.Frag} {F : Hp} {x : V} {d : D} (r : Rp K F x d) : decide (x = .non) = isNonD d := by
  cases r <;> simp [isNonD]
theorem ob_is {K : PySem.W.Frag} : OpB K (fun x y H Q => (y = .non ∧ Q (.bl (decide (x = .non))) H) ∨ rIsB x y H Q) gIs := by
  intro F H x y d e z Q l rx ry hz q
  unfold gIs at hz
  split at hz
  · cases hz
    cases ry
    exact .inl ⟨rfl, by rw [rx.isN]; exact q _ F H (Gr.refl l) (.bl _)⟩
  · cases hz
    cases rx
    cases ry
    exact .inr ⟨_, _, rfl, rfl, q _ F H (Gr.refl l) (.bl _)⟩
  · cases hz
theorem ob_isNot {K : PySem.W.Frag} : OpB K (fun x y H Q => (y = .non ∧ Q (.bl (!decide (x = .non))) H) ∨ rNotB x y H Q) gIsNot := by
  intro F H x y d e z Q l rx ry hz q
  unfold gIsNot at hz
  split at hz
  · cases hz
    cases ry
    refine .inl ⟨rfl, ?_⟩
    rw [rx.isN]
    exact q _ F H (Gr.refl l) (.bl _)
  · cases hz
    cases rx
    cases ry
    exact .inr ⟨_, _, rfl, rfl, q _ F H (Gr.refl l) (.bl _)⟩
  · cases hz
/-- one sign in a text; a thing in a list or tuple of data -/
def inS : D → D → Option Bool
  | .str x, .str y => match x.cps.toList with
    | [c] => some (decide (c ∈ y.cps.toList))
    | _ => none
  | _, _ => none
def gIn : D → D → Option D := fun d e => (inS d e).map .bool
def gNotIn : D → D → Option D := fun d e => (inS d e).map fun b => .bool (!b)
theorem inS_inv {d e : D} {b : Bool} (h : inS d e = some b) : ∃ c y, d = .str ⟨#[c]⟩ ∧ e = .str y ∧ b = decide (c ∈ y.cps.toList) := by
  unfold inS at h
  split at h
  · rename_i x y
    split at h
    · rename_i c hc
      cases h
      refine ⟨c, y, ?_, rfl, rfl⟩
      congr 1
      exact TL.ext_tl hc
    · cases h
  · cases h
theorem ob_in {K : PySem.W.Frag} : OpB K (fun x y H Q => ∃ (c : Nat) (z : Str), x = .str ⟨#[c]⟩ ∧ y = .str z ∧ Q (.bl (decide (c ∈ z.cps.toList))) H) gIn := by
  intro F H x y d e z Q l rx ry hz q
  unfold gIn at hz
  rw [Option.map_eq_some_iff] at hz
  obtain ⟨b, hb, rfl⟩ := hz
  obtain ⟨c, w, rfl, rfl, rfl⟩ := inS_inv hb
  cases rx
  cases ry
  exact ⟨c, w, rfl, rfl, q _ F H (Gr.refl l) (.bl _)⟩
theorem ob_notIn {K : PySem.W.Frag} : OpB K (fun x y H Q => ∃ (c : Nat) (z : Str), x = .str ⟨#[c]⟩ ∧ y = .str z ∧ Q (.bl (!decide (c ∈ z.cps.toList))) H) gNotIn := by
  intro F H x y d e z Q l rx ry hz q
  unfold gNotIn at hz
  rw [Option.map_eq_some_iff] at hz
  obtain ⟨b, hb, rfl⟩ := hz
  obtain ⟨c, w, rfl, rfl, rfl⟩ := inS_inv hb
  cases rx
  cases ry
  exact ⟨c, w, rfl, rfl, q _ F H (Gr.refl l) (.bl _)⟩
end
end DL
set_option Elab.async false
set_option linter.all false
set_option maxRecDepth 100000
set_option maxHeartbeats 4000000
namespace DL
open PySem PySem.Spec PyProof.Rows L2
section
variable {X : Cx} {W : WX} {pos : Pos} {a b e : Expr} {fa fb : Env → R D}
/-! ### the comparisons by name -/
theorem ev_eq (hu : X.A.units + 64 < cLine) (ha : EV X W a fa) (hb : EB X W b fb) : EV X W (.Compare a [.Eq] [b] pos) (f2 gEq fa fb) := ev_cmp (op_eqAll hu) ob_eq ha hb
theorem ev_ne (hu : X.A.units + 64 < cLine) (ha : EV X W a fa) (hb : EB X W b fb) : EV X W (.Compare a [.NotEq] [b] pos) (f2 gNe fa fb) := ev_cmp (op_neAll hu) ob_ne ha hb
theorem ev_lt (ha : EV X W a fa) (hb : EB X W b fb) : EV X W (.Compare a [.Lt] [b] pos) (f2 gLt fa fb) := ev_cmp op_ltD ob_cmp ha hb
theorem ev_le (ha : EV X W a fa) (hb : EB X W b fb) : EV X W (.Compare a [.LtE] [b] pos) (f2 gLe fa fb) := ev_cmp op_leD ob_cmp ha hb
theorem ev_gt (ha : EV X W a fa) (hb : EB X W b fb) : EV X W (.Compare a [.Gt] [b] pos) (f2 gGt fa fb) := ev_cmp op_gtD ob_cmp ha hb
theorem ev_ge (ha : EV X W a fa) (hb : EB X W b fb) : EV X W (.Compare a [.GtE] [b] pos) (f2 gGe fa fb) := ev_cmp op_geD ob_cmp ha hb
theorem ev_is (ha : EV X W a fa) (hb : EB X W b fb) : EV X W (.Compare a [.Is] [b] pos) (f2 gIs fa fb) := ev_cmp op_isAll ob_is ha hb
theorem ev_isNot (ha : EV X W a fa) (hb : EB X W b fb) : EV X W (.Compare a [.IsNot] [b] pos) (f2 gIsNot fa fb) := ev_cmp op_isNotAll ob_isNot ha hb
theorem ev_inS (ha : EV X W a fa) (hb : EB X W b fb) (hm : behindInMarks .In b = false := by rfl) : EV X W (.Compare a [.In] [b] pos) (f2 gIn fa fb) := ev_cmp op_in_sign ob_in ha hb hm
theorem ev_notInS (ha : EV X W a fa) (hb : EB X W b fb) (hm : behindInMarks .NotIn b = false := by rfl) : EV X W (.Compare a [.NotIn] [b] pos) (f2 gNotIn fa fb) := ev_cmp op_notIn_sign ob_notIn ha hb hm
theorem et_eq (hu : X.A.units + 64 < cLine) (ha : EV X W a fa) (hb : EB X W b fb) : ET X W (.Compare a [.Eq] [b] pos) (fB (f2 gEq fa fb)) := et_cmp (op_eqAll hu) ob_eq ha hb
theorem et_ne (hu : X.A.units + 64 < cLine) (ha : EV X W a fa) (hb : EB X W b fb) : ET X W (.Compare a [.NotEq] [b] pos) (fB (f2 gNe fa fb)) := et_cmp (op_neAll hu) ob_ne ha hb
theorem et_lt (ha : EV X W a fa) (hb : EB X W b fb) : ET X W (.Compare a [.Lt] [b] pos) (fB (f2 gLt fa fb)) := et_cmp op_ltD ob_cmp ha hb
theorem et_le (ha : EV X W a fa) (hb : EB X W b fb) : ET X W (.Compare a [.LtE] [b] pos) (fB (f2 gLe fa fb)) := et_cmp op_leD ob_cmp ha hb
theorem et_gt (ha : EV X W a fa) (hb : EB X W b fb) : ET X W (.Compare a [.Gt] [b] pos) (fB (f2 gGt fa fb)) := et_cmp op_gtD ob_cmp ha hb
theorem et_ge (ha : EV X W a fa) (hb : EB X W b fb) : ET X W (.Compare a [.GtE] [b] pos) (fB (f2 gGe fa fb)) := et_cmp op_geD ob_cmp ha hb
theorem et_is (ha : EV X W a fa) (hb : EB X W b fb) : ET X W (.Compare a [.Is] [b] pos) (fB (f2 gIs fa fb)) := et_cmp op_isAll ob_is ha hb
theorem et_isNot (ha : EV X W a fa) (hb : EB X W b fb) : ET X W (.Compare a [.IsNot] [b] pos) (fB (f2 gIsNot fa fb)) := et_cmp op_isNotAll ob_isNot ha hb
theorem et_inS (ha : EV X W a fa) (hb : EB X W b fb) (hm : behindInMarks .In b = false := by rfl) : ET X W (.Compare a [.In] [b] pos) (fB (f2 gIn fa fb)) := et_cmp op_in_sign ob_in ha hb hm
theorem et_notInS (ha : EV X W a fa) (hb : EB X W b fb) (hm : behindInMarks .NotIn b = false := by rfl) : ET X W (.Compare a [.NotIn] [b] pos) (fB (f2 gNotIn fa fb)) := et_cmp op_notIn_sign ob_notIn ha hb hm

/-! ### subscripts -/
def gIx : D → D → Option D
  | .list ds, .int i => atI ds i
  | .tuple ds, .int i => atI ds i
  | .str x, .int i => if x.length ≤ sizeLine then (atI x.cps.toList i).map sign1 else none
  | _, _ => none
theorem atI_rep {K : PySem.W.Frag} {F : Hp} {vs : List V} {ds : List D} {i : Int} {d : D} (r : Rps K F vs ds) (h : atI ds i = some d) : ∃ v, atI vs i = some v ∧ Rp K F v d := by
  unfold atI at h ⊢
  rw [r.length]
  obtain ⟨j, h1, h2⟩ := Option.bind_eq_some_iff.mp h
  obtain ⟨v, hv, rv⟩ := r.get h2
  exact ⟨v, by rw [h1]; exact hv, rv⟩
theorem od_ix {K : PySem.W.Frag} : OpD K (fun x y H Q => rIxL K x y H Q ∨ (rIxT K x y H Q ∨ rIxS x y H Q)) gIx := by
  intro F H x y d e z Q l rx ry hz q
  unfold gIx at hz
  split at hz
  · cases ry
    cases rx with
    | lst hs rs =>
      obtain ⟨v, hv, rv⟩ := atI_rep rs hz
      exact .inl ⟨_, _, _, v, rfl, rfl, l.sl hs, hv, q _ F H (Gr.refl l) rv⟩
  · cases ry
    cases rx with
    | tup hs rs =>
      obtain ⟨v, hv, rv⟩ := atI_rep rs hz
      exact .inr (.inl ⟨_, _, _, v, rfl, rfl, l.st hs, hv, q _ F H (Gr.refl l) rv⟩)
  · split at hz
    · rename_i hl
      cases ry
      cases rx
      rw [Option.map_eq_some_iff] at hz
      obtain ⟨c, hc, rfl⟩ := hz
      exact .inr (.inr ⟨_, _, c, rfl, rfl, hl, hc, q _ F H (Gr.refl l) (.str _)⟩)
    · cases hz
  · cases hz
theorem ev_at (ha : EV X W a fa) (hb : EV X W b fb) (hs : PlainIx b := by intro _ _; rfl) : EV X W (.Subscript a b pos) (f2 gIx fa fb) := ev_ix (ix_list.or (ix_tup.or ix_str)) od_ix ha hb hs
/-! ### slices -/
def EO (X : Cx) (W : WX) (e : Option Expr) (f : Env → R (Option Int)) : Prop :=
  ∃ t : TO, PO X e t ∧ ∀ env σ F H fp Q, Wd F H fp → RpE X.K F H env σ fp → Post X W σ F H fp (fun _ _ (b : Option Int) a fq => fq = [] ∧ b = a) Q (f env) → t σ H Q
def intD : D → Option Int
  | .int i => some i
  | _ => none
def fNoPart : Env → R (Option Int) := fun env => .ok none env
def fPart (fa : Env → R D) : Env → R (Option Int) := fun env => (fa env).bind fun d e => .of ((intD d).map some) e
theorem eo_none : EO X W none fNoPart := ⟨_, po_none, fun env σ F H fp Q w re q => q none F H [] fp (Ev.refl _ _ _) w re ⟨rfl, rfl⟩⟩
theorem eo_some (ha : EB X W e fa) : EO X W (some e) (fPart fa) := by
  obtain ⟨t, p, k⟩ := ha
  refine ⟨_, po_some p, fun env σ F H fp Q w re q => k env σ F H fp _ w re (Post.seq (rep1 := repB X.K) q fun d env1 v F1 H1 fq fp1 y w1 re1 r1 q1 => ?_)⟩
  obtain ⟨rfl, r1⟩ := r1
  obtain ⟨z, hz, q2⟩ := q1.of
  rw [Option.map_eq_some_iff] at hz
  obtain ⟨i, hi, rfl⟩ := hz
  cases d <;> simp [intD] at hi
  subst hi
  cases r1
  exact ⟨_, rfl, q2 _ F1 H1 [] fp1 (Ev.refl _ _ _) w1 re1 ⟨rfl, rfl⟩⟩
def cutD (ds : List D) (lo hi : Option Int) : List D := (ds.drop (HT.sIx ds.length 0 lo)).take (HT.sIx ds.length ds.length hi - HT.sIx ds.length 0 lo)
def gSl : D → Option Int → Option Int → Option D
  | .list ds, lo, hi => some (.list (cutD ds lo hi))
  | .tuple ds, lo, hi => some (.tuple (cutD ds lo hi))
  | .str x, lo, hi => if x.length ≤ sizeLine then some (.str (cutS x lo hi)) else none
  | _, _, _ => none
theorem cut_rep {K : PySem.W.Frag} {F : Hp} {vs : List V} {ds : List D} {lo hi : Option Int} (r : Rps K F vs ds) : Rps K F (cutV vs lo hi) (cutD ds lo hi) := by
  unfold cutV cutD
  rw [r.length]
  exact (r.drop _).take _
theorem cutD_whole {ds : List D} {lo hi : Option Int} (h : HT.sIx ds.length 0 lo = 0 ∧ HT.sIx ds.length ds.length hi = ds.length) : cutD ds lo hi = ds := by
  unfold cutD
  rw [h.1, h.2, List.drop_zero, Nat.sub_zero, List.take_length]
def fSl (fa : Env → R D) (fl fh : Env → R (Option Int)) : Env → R D := fun env => (fa env).bind fun d e1 => (fl e1).bind fun lo e2 => (fh e2).bind fun hi e3 => .of (gSl d lo hi) e3
theorem ev_slice {lo hi : Option Expr} {fl fh : Env → R (Option Int)} {p2 : Pos} (ha : EV X W a fa) (hl : EO X W lo fl) (hh : EO X W hi fh) : EV X W (.Subscript a (.Slice lo hi none p2) pos) (fSl fa fl fh) := by
  obtain ⟨t, p, k⟩ := ha
  obtain ⟨tl, pl, kl⟩ := hl
  obtain ⟨th, ph, kh⟩ := hh
  refine ⟨_, pe_slice ((sl_list.or sl_tupA).or sl_str) p pl ph, fun env σ F H fp Q w re q => ?_⟩
  refine k env σ F H fp _ w re (Post.seq (rep1 := repV X.K) q fun d env1 v F1 H1 fq fp1 y w1 re1 r1 q1 => ?_)
  obtain ⟨rfl, r1⟩ := r1
  refine kl env1 σ F1 H1 fp1 _ w1 re1 (Post.seq q1 fun o1 env2 i1 F2 H2 fq fp2 y2 w2 re2 r2 q2 => ?_)
  obtain ⟨rfl, rfl⟩ := r2
  refine kh env2 σ F2 H2 fp2 _ w2 re2 (Post.seq q2 fun o2 env3 i2 F3 H3 fq fp3 y3 w3 re3 r3 q3 => ?_)
  obtain ⟨rfl, rfl⟩ := r3
  obtain ⟨z, hz, q4⟩ := q3.of
  have rv : Rp X.K F3 v d := (r1.mono y2.frz).mono y3.frz
  unfold gSl at hz
  split at hz
  · cases hz
    cases rv with
    | lst hs rs =>
      rename_i a0 xs
      refine .inl (.inl ⟨a0, xs, rfl, w3.le.sl hs, fun p hp => ?_⟩)
      have g : Gr F3 H3 (upd F3 p (.lst (cutV xs i1 i2))) (upd H3 p (.lst (cutV xs i1 i2))) := Gr.put w3.le hp
      exact q4.gr w3 re3 g ⟨rfl, .lst (.inl (.inl upd_same)) ((cut_rep rs).mono g.l1)⟩
  · cases hz
    cases rv with
    | tup hs rs =>
      rename_i a0 xs
      refine .inl (.inr ⟨a0, xs, rfl, w3.le.st hs, fun hw => ?_, fun _ p hp => ?_⟩)
      · rw [rs.length] at hw
        rw [cutD_whole hw] at q4
        exact q4.gr w3 re3 (Gr.refl w3.le) ⟨rfl, .tup hs rs⟩
      · have g : Gr F3 H3 (upd F3 p (.tup (cutV xs i1 i2))) (upd H3 p (.tup (cutV xs i1 i2))) := Gr.put w3.le hp
        exact q4.gr w3 re3 g ⟨rfl, .tup (.inl (.inl upd_same)) ((cut_rep rs).mono g.l1)⟩
  · split at hz
    · rename_i hl
      cases hz
      cases rv
      exact .inr ⟨_, rfl, hl, q4.gr w3 re3 (Gr.refl w3.le) ⟨rfl, .str _⟩⟩
    · cases hz
  · cases hz

/-! ### a builtin of one thing -/
def Call1 (K : PySem.W.Frag) (r : List V → Hp → VK → Prop) (g : D → Option D) : Prop := ∀ F H v d z Q, Le F H → Rp K H v d → g d = some z → (∀ v F' H', Gr F H F' H' → Rp K F' v z → Q v H') → r [v] H Q
def Call1D (K : PySem.W.Frag) (r : List V → Hp → VK → Prop) (g : D → Option D) : Prop := ∀ F H v d z Q, Le F H → Rp K F v d → g d = some z → (∀ v F' H', Gr F H F' H' → Rp K F' v z → Q v H') → r [v] H Q
theorem ev_cb {r : List V → Hp → VK → Prop} {g : D → Option D} {x : Str} {id : String} {p : Pos} (hc : CallR X (.builtin id) r) (hg : Call1 X.K r g) (hm : X.mg x = none) (ha : EB X W e fa) (hv : bootBuiltins x = some (.builtin id)) (hG : Gl X x := by rfl)
    (hn : x ≠ "__name__" := by decide) (hdb : (x == ("__debug__" : Str)) = false := by decide) (he : starEach (e :: []) X.env = (false, eval e X.env) :: starEach [] X.env := by rfl) (hpl : (backTo pos (starEach [] X.env)).any (·.1) = false := by rfl) :
    EV X W (.Call (.Name x p) [e] [] pos) (f1 g fa) := by
  obtain ⟨t, pe, k⟩ := ha
  refine ⟨_, pe_callB hc hG hm hv (pa_cons pe pa_nil he) hn hdb he hpl, fun env σ F H fp Q w re q => k env σ F H fp _ w re (Post.seq (rep1 := repB X.K) q fun d env1 v F1 H1 fq fp1 y w1 re1 r1 q1 => ?_)⟩
  obtain ⟨rfl, r1⟩ := r1
  obtain ⟨z, hz, q2⟩ := q1.of
  exact hg F1 H1 v d z Q w1.le r1 hz fun v F' H' g r' => q2.gr w1 re1 g ⟨rfl, r'⟩
theorem ev_ct {r : List V → Hp → VK → Prop} {g : D → Option D} {x : Str} {T : String} {p : Pos} (hc : CallR X (.type T) r) (hg : Call1 X.K r g) (hm : X.mg x = none) (ha : EB X W e fa) (hv : bootBuiltins x = some (.type T)) (hG : Gl X x := by rfl)
    (hn : x ≠ "__name__" := by decide) (hdb : (x == ("__debug__" : Str)) = false := by decide) (he : starEach (e :: []) X.env = (false, eval e X.env) :: starEach [] X.env := by rfl) (hpl : (backTo pos (starEach [] X.env)).any (·.1) = false := by rfl) :
    EV X W (.Call (.Name x p) [e] [] pos) (f1 g fa) := by
  obtain ⟨t, pe, k⟩ := ha
  refine ⟨_, pe_callTy hc hG hm hv (pa_cons pe pa_nil he) hn hdb he hpl, fun env σ F H fp Q w re q => k env σ F H fp _ w re (Post.seq (rep1 := repB X.K) q fun d env1 v F1 H1 fq fp1 y w1 re1 r1 q1 => ?_)⟩
  obtain ⟨rfl, r1⟩ := r1
  obtain ⟨z, hz, q2⟩ := q1.of
  exact hg F1 H1 v d z Q w1.le r1 hz fun v F' H' g r' => q2.gr w1 re1 g ⟨rfl, r'⟩
theorem ev_ctD {r : List V → Hp → VK → Prop} {g : D → Option D} {x : Str} {T : String} {p : Pos} (hc : CallR X (.type T) r) (hg : Call1D X.K r g) (hm : X.mg x = none) (ha : EV X W e fa) (hv : bootBuiltins x = some (.type T)) (hG : Gl X x := by rfl)
    (hn : x ≠ "__name__" := by decide) (hdb : (x == ("__debug__" : Str)) = false := by decide) (he : starEach (e :: []) X.env = (false, eval e X.env) :: starEach [] X.env := by rfl) (hpl : (backTo pos (starEach [] X.env)).any (·.1) = false := by rfl) :
    EV X W (.Call (.Name x p) [e] [] pos) (f1 g fa) := by
  obtain ⟨t, pe, k⟩ := ha
  refine ⟨_, pe_callTy hc hG hm hv (pa_cons pe pa_nil he) hn hdb he hpl, fun env σ F H fp Q w re q => k env σ F H fp _ w re (Post.seq (rep1 := repV X.K) q fun d env1 v F1 H1 fq fp1 y w1 re1 r1 q1 => ?_)⟩
  obtain ⟨rfl, r1⟩ := r1
  obtain ⟨z, hz, q2⟩ := q1.of
  exact hg F1 H1 v d z Q w1.le r1 hz fun v F' H' g r' => q2.gr w1 re1 g ⟨rfl, r'⟩
variable {p : Pos}
def gLen : D → Option D
  | .str x => if x.length ≤ sizeLine then some (.int x.length) else none
  | .list ds => some (.int ds.length)
  | .tuple ds => some (.int ds.length)
  | _ => none
theorem c1_len {K : PySem.W.Frag} : Call1 K (fun xs H Q => ∃ x n, xs = [x] ∧ LenV K x H n ∧ Q (.int n) H) gLen := by
  intro F H v d z Q l r h q
  unfold gLen at h
  split at h
  · split at h
    · rename_i hl
      cases h
      cases r
      exact ⟨_, _, rfl, ⟨hl, rfl⟩, q _ F H (Gr.refl l) (.int _)⟩
    · cases h
  · cases h
    cases r with
    | lst hs rs => exact ⟨_, _, rfl, .inl ⟨_, hs, rs.length.symm⟩, q _ F H (Gr.refl l) (.int _)⟩
  · cases h
    cases r with
    | tup hs rs => exact ⟨_, _, rfl, .inr ⟨_, hs, rs.length.symm⟩, q _ F H (Gr.refl l) (.int _)⟩
  · cases h
theorem ev_len (hm : X.mg "len" = none) (ha : EB X W e fa) (hG : Gl X "len" := by rfl) (he : starEach (e :: []) X.env = (false, eval e X.env) :: starEach [] X.env := by rfl) : EV X W (.Call (.Name "len" p) [e] [] pos) (f1 gLen fa) := ev_cb call_len c1_len hm ha PySem.boot_len hG (by decide) (by decide) he
def gAbs : D → Option D
  | .int i => some (.int (if i < 0 then -i else i))
  | _ => none
theorem ev_abs (hm : X.mg "abs" = none) (ha : EB X W e fa) (hG : Gl X "abs" := by rfl) (he : starEach (e :: []) X.env = (false, eval e X.env) :: starEach [] X.env := by rfl) : EV X W (.Call (.Name "abs" p) [e] [] pos) (f1 gAbs fa) := by
  refine ev_cb (g := gAbs) call_abs ?_ hm ha (by decide +kernel) hG (by decide) (by decide) he
  intro F H v d z Q l r h q
  unfold gAbs at h
  split at h
  · cases h
    cases r
    exact ⟨_, rfl, q _ F H (Gr.refl l) (.int _)⟩
  · cases h
def gOrd : D → Option D
  | .str x => if x.length = 1 then some (.int (x.cps.getD 0 0 : Nat)) else none
  | _ => none
theorem ev_ord (hm : X.mg "ord" = none) (ha : EB X W e fa) (hG : Gl X "ord" := by rfl) (he : starEach (e :: []) X.env = (false, eval e X.env) :: starEach [] X.env := by rfl) : EV X W (.Call (.Name "ord" p) [e] [] pos) (f1 gOrd fa) := by
  refine ev_cb (g := gOrd) call_ord ?_ hm ha (by decide +kernel) hG (by decide) (by decide) he
  intro F H v d z Q l r h q
  unfold gOrd at h
  split at h
  · split at h
    · rename_i hl
      cases h
      cases r
      exact ⟨_, rfl, hl, q _ F H (Gr.refl l) (.int _)⟩
    · cases h
  · cases h
def gStr : D → Option D
  | .int i => if i.natAbs.log2 < 1920 then some (.str (toString i)) else none
  | _ => none
theorem ev_strc (hm : X.mg "str" = none) (ha : EB X W e fa) (hG : Gl X "str" := by rfl) (he : starEach (e :: []) X.env = (false, eval e X.env) :: starEach [] X.env := by rfl) : EV X W (.Call (.Name "str" p) [e] [] pos) (f1 gStr fa) := by
  refine ev_ct (g := gStr) call_str_int ?_ hm ha (by decide +kernel) hG (by decide) (by decide) he
  intro F H v d z Q l r h q
  unfold gStr at h
  split at h
  · split at h
    · rename_i hl
      cases h
      cases r
      exact ⟨_, rfl, hl, q _ F H (Gr.refl l) (.str _)⟩
    · cases h
  · cases h
def gInt : D → Option D
  | .int i => some (.int i)
  | .bool b => some (.int (if b then 1 else 0))
  | .str x => if x.length ≤ 640 then (PySem.intText? x).map .int else none
  | _ => none
theorem CallR.or {f : Value} {r r' : List V → Hp → VK → Prop} (h : CallR X f r) (h' : CallR X f r') : CallR X f (fun xs H Q => r xs H Q ∨ r' xs H Q) := by
  intro pins s σ H xs us Q I rx q
  rcases q with q | q
  · exact h pins s σ H xs us Q I rx q
  · exact h' pins s σ H xs us Q I rx q
theorem ev_intc (hm : X.mg "int" = none) (ha : EB X W e fa) (hG : Gl X "int" := by rfl) (he : starEach (e :: []) X.env = (false, eval e X.env) :: starEach [] X.env := by rfl) : EV X W (.Call (.Name "int" p) [e] [] pos) (f1 gInt fa) := by
  refine ev_ct (g := gInt) (CallR.or call_int1 call_int_str) ?_ hm ha (by decide +kernel) hG (by decide) (by decide) he
  intro F H v d z Q l r h q
  unfold gInt at h
  split at h
  · cases h
    cases r
    exact .inl (.inl ⟨_, rfl, q _ F H (Gr.refl l) (.int _)⟩)
  · cases h
    cases r
    exact .inl (.inr ⟨_, rfl, q _ F H (Gr.refl l) (.int _)⟩)
  · split at h
    · rename_i hl
      rw [Option.map_eq_some_iff] at h
      obtain ⟨n, hn, rfl⟩ := h
      cases r
      exact .inr ⟨_, n, rfl, hn, hl, q _ F H (Gr.refl l) (.int _)⟩
    · cases h
  · cases h
/-- lists all of whose things are ints, truths, texts -/
def allI : List D → Option (List Int)
  | [] => some []
  | .int i :: r => (allI r).map (i :: ·)
  | _ => none
def allB : List D → Option (List Bool)
  | [] => some []
  | .bool i :: r => (allB r).map (i :: ·)
  | _ => none
def allS : List D → Option (List Str)
  | [] => some []
  | .str i :: r => (allS r).map (i :: ·)
  | _ => none
theorem allI_rep {K : PySem.W.Frag} {H : Hp} : ∀ {ds : List D} {vs : List V} {ns : List Int}, Rps K H vs ds → allI ds = some ns → vs = ns.map V.int
  | [], _, _, .nil, h => by simp only [allI, Option.some.injEq] at h; subst h; rfl
  | d :: r, _, ns, .cons rd rs, h => by
    cases d <;> simp only [allI] at h <;> try cases h
    rw [Option.map_eq_some_iff] at h
    obtain ⟨m, hm, rfl⟩ := h
    cases rd
    rw [List.map_cons, allI_rep rs hm]
theorem allB_rep {K : PySem.W.Frag} {H : Hp} : ∀ {ds : List D} {vs : List V} {ns : List Bool}, Rps K H vs ds → allB ds = some ns → vs = ns.map V.bl
  | [], _, _, .nil, h => by simp only [allB, Option.some.injEq] at h; subst h; rfl
  | d :: r, _, ns, .cons rd rs, h => by
    cases d <;> simp only [allB] at h <;> try cases h
    rw [Option.map_eq_some_iff] at h
    obtain ⟨m, hm, rfl⟩ := h
    cases rd
    rw [List.map_cons, allB_rep rs hm]
theorem allS_rep {K : PySem.W.Frag} {H : Hp} : ∀ {ds : List D} {vs : List V} {ns : List Str}, Rps K H vs ds → allS ds = some ns → vs = ns.map V.str
  | [], _, _, .nil, h => by simp only [allS, Option.some.injEq] at h; subst h; rfl
  | d :: r, _, ns, .cons rd rs, h => by
    cases d <;> simp only [allS] at h <;> try cases h
    rw [Option.map_eq_some_iff] at h
    obtain ⟨m, hm, rfl⟩ := h
    cases rd
    rw [List.map_cons, allS_rep rs hm]
theorem Rps.ofStr {K : PySem.W.Frag} {F : Hp} : ∀ ys : List Str, Rps K F (ys.map V.str) (ys.map PyData.str)
  | [] => .nil
  | y :: ys => .cons (.str y) (Rps.ofStr ys)
def gSum : D → Option D
  | .list ds => (allI ds).map fun ns => .int ns.sum
  | _ => none
theorem ev_sum (hc : X.calm = true) (hm : X.mg "sum" = none) (ha : EB X W e fa) (hG : Gl X "sum" := by rfl) (he : starEach (e :: []) X.env = (false, eval e X.env) :: starEach [] X.env := by rfl) : EV X W (.Call (.Name "sum" p) [e] [] pos) (f1 gSum fa) := by
  refine ev_cb (g := gSum) (cr_sum hc) ?_ hm ha (by decide +kernel) hG (by decide) (by decide) he
  intro F H v d z Q l r h q
  unfold gSum at h
  split at h
  · rw [Option.map_eq_some_iff] at h
    obtain ⟨ns, hn, rfl⟩ := h
    cases r with
    | lst hs rs =>
      have e := allI_rep rs hn
      subst e
      exact ⟨_, ns, rfl, hs, q _ F H (Gr.refl l) (.int _)⟩
  · cases h
def gAll : D → Option D
  | .list ds => (allB ds).map fun ns => .bool (ns.all id)
  | _ => none
theorem ev_all (hc : X.calm = true) (hm : X.mg "all" = none) (ha : EB X W e fa) (hG : Gl X "all" := by rfl) (he : starEach (e :: []) X.env = (false, eval e X.env) :: starEach [] X.env := by rfl) : EV X W (.Call (.Name "all" p) [e] [] pos) (f1 gAll fa) := by
  refine ev_cb (g := gAll) (cr_all hc) ?_ hm ha (by decide +kernel) hG (by decide) (by decide) he
  intro F H v d z Q l r h q
  unfold gAll at h
  split at h
  · rw [Option.map_eq_some_iff] at h
    obtain ⟨ns, hn, rfl⟩ := h
    cases r with
    | lst hs rs =>
      have e := allB_rep rs hn
      subst e
      exact ⟨_, ns, rfl, hs, q _ F H (Gr.refl l) (.bl _)⟩
  · cases h
def gTupC : D → Option D
  | .list ds => some (.tuple ds)
  | .tuple ds => some (.tuple ds)
  | _ => none
theorem ev_tuple (hm : X.mg "tuple" = none) (ha : EV X W e fa) (hG : Gl X "tuple" := by rfl) (he : starEach (e :: []) X.env = (false, eval e X.env) :: starEach [] X.env := by rfl) : EV X W (.Call (.Name "tuple" p) [e] [] pos) (f1 gTupC fa) := by
  refine ev_ctD (g := gTupC) call_tuple_of ?_ hm ha (by decide +kernel) hG (by decide) (by decide) he
  intro F H v d z Q l r h q
  unfold gTupC at h
  split at h
  · cases h
    cases r with
    | lst hs rs =>
      rename_i a0 xs
      refine ⟨a0, xs, rfl, .inl ⟨l.sl hs, fun p hp => ?_⟩⟩
      have g : Gr F H (upd F p (.tup xs)) (upd H p (.tup xs)) := Gr.put l hp
      exact q _ _ _ g (.tup (.inl (.inl upd_same)) (rs.mono g.l1))
  · cases h
    cases r with
    | tup hs rs => exact ⟨_, _, rfl, .inr ⟨l.st hs, q _ F H (Gr.refl l) (.tup hs rs)⟩⟩
  · cases h
def gLstC : D → Option D
  | .list ds => some (.list ds)
  | .tuple ds => some (.list ds)
  | _ => none
theorem ev_list (hm : X.mg "list" = none) (ha : EV X W e fa) (hG : Gl X "list" := by rfl) (he : starEach (e :: []) X.env = (false, eval e X.env) :: starEach [] X.env := by rfl) : EV X W (.Call (.Name "list" p) [e] [] pos) (f1 gLstC fa) := by
  refine ev_ctD (g := gLstC) call_list_of ?_ hm ha (by decide +kernel) hG (by decide) (by decide) he
  intro F H v d z Q l r h q
  unfold gLstC at h
  split at h
  · cases h
    cases r with
    | lst hs rs =>
      rename_i a0 xs
      refine ⟨a0, xs, rfl, .inl (l.sl hs), fun p hp => ?_⟩
      have g : Gr F H (upd F p (.lst xs)) (upd H p (.lst xs)) := Gr.put l hp
      exact q _ _ _ g (.lst (.inl (.inl upd_same)) (rs.mono g.l1))
  · cases h
    cases r with
    | tup hs rs =>
      rename_i a0 xs
      refine ⟨a0, xs, rfl, .inr (l.st hs), fun p hp => ?_⟩
      have g : Gr F H (upd F p (.lst xs)) (upd H p (.lst xs)) := Gr.put l hp
      exact q _ _ _ g (.lst (.inl (.inl upd_same)) (rs.mono g.l1))
  · cases h
/-- min, max of two ints -/
def g2I (f : Int → Int → Int) : List Arg → Option D
  | [.d (.int i), .d (.int j)] => some (.int (f i j))
  | _ => none
def fArgs (g : List Arg → Option D) (fr : Env → R (List Arg)) : Env → R D := fun env => (fr env).bind fun as e => .of (g as) e
theorem ev_2I {f : Int → Int → Int} {x : Str} {id : String} {fr : Env → R (List Arg)} {es : List Expr} (hc : CallR X (.builtin id) (fun xs H Q => ∃ i j, xs = [.int i, .int j] ∧ Q (.int (f i j)) H)) (hm : X.mg x = none) (ha : EA X W (e :: es) fr) (hv : bootBuiltins x = some (.builtin id)) (hG : Gl X x := by rfl)
    (hn : x ≠ "__name__" := by decide) (hdb : (x == ("__debug__" : Str)) = false := by decide) (he : starEach (e :: es) X.env = (false, eval e X.env) :: starEach es X.env := by rfl) (hpl : (backTo pos (starEach es X.env)).any (·.1) = false := by rfl) :
    EV X W (.Call (.Name x p) (e :: es) [] pos) (fArgs (g2I f) fr) := by
  obtain ⟨t, pe, k⟩ := ha
  refine ⟨_, pe_callB hc hG hm hv pe hn hdb he hpl, fun env σ F H fp Q w re q => k env σ F H fp _ w re (Post.seq (rep1 := repA X.K σ) q fun as env1 vs F1 H1 fq fp1 y w1 re1 r1 q1 => ?_)⟩
  obtain ⟨rfl, r1⟩ := r1
  obtain ⟨z, hz, q2⟩ := q1.of
  unfold g2I at hz
  split at hz
  · cases hz
    cases r1 with
    | d ra rb =>
      cases ra
      cases rb with
      | d rb rc =>
        cases rb
        cases rc
        exact ⟨_, _, rfl, q2.gr w1 re1 (Gr.refl w1.le) ⟨rfl, .int _⟩⟩
  · cases hz
theorem ev_max2 {fr : Env → R (List Arg)} {es : List Expr} (hc : X.calm = true) (hm : X.mg "max" = none) (ha : EA X W (e :: es) fr) (hG : Gl X "max" := by rfl) (he : starEach (e :: es) X.env = (false, eval e X.env) :: starEach es X.env := by rfl) (hpl : (backTo pos (starEach es X.env)).any (·.1) = false := by rfl) :
    EV X W (.Call (.Name "max" p) (e :: es) [] pos) (fArgs (g2I fun i j => if j > i then j else i) fr) := ev_2I (call_max2 hc) hm ha (by decide +kernel) hG (by decide) (by decide) he hpl
theorem ev_min2 {fr : Env → R (List Arg)} {es : List Expr} (hc : X.calm = true) (hm : X.mg "min" = none) (ha : EA X W (e :: es) fr) (hG : Gl X "min" := by rfl) (he : starEach (e :: es) X.env = (false, eval e X.env) :: starEach es X.env := by rfl) (hpl : (backTo pos (starEach es X.env)).any (·.1) = false := by rfl) :
    EV X W (.Call (.Name "min" p) (e :: es) [] pos) (fArgs (g2I fun i j => if j < i then j else i) fr) := ev_2I (call_min2 hc) hm ha (by decide +kernel) hG (by decide) (by decide) he hpl
/-! ### a constant of the module -/
theorem ev_glob {x : Str} {v : V} {u : Value} {d : D} (hm : X.mg x = some u) (r : RelV v u) (rd : ∀ F, Rp X.K F v d) (hg : Gl X x := by rfl) (hd : (x == ("__debug__" : Str)) = false := by decide) : EV X W (.Name x pos) (fC d) := ev_const (pe_glob hg hm r hd) rd
end
end DL
set_option Elab.async false
set_option linter.all false
set_option maxRecDepth 100000
set_option maxHeartbeats 4000000
namespace DL
open PySem PySem.Spec PyProof.Rows L2 Builtin Builtin.Str Builtin.Int Builtin.Float

def spec06 : FormatSpec := match parseFormatSpec ("06d" : PySem.Str).cps.toList "int" 62 with | .ok f => f | .error _ => { align := 61 }
theorem spec06_ok : parseFormatSpec ("06d" : PySem.Str).cps.toList "int" 62 = .ok spec06 := by rfl
/-- six figures or more -/
def pad6 (n : _root_.Nat) : PySem.Str := ⟨(List.replicate (6 - (Nat.toDigits 10 n).length) 48 ++ (Nat.toDigits 10 n).map Char.toNat).toArray⟩
theorem format_06 {prog : Program} {w : World} {A : Around} {E : Value → Shared → Prop} {s : Shared} {n : _root_.Nat} {t : Tok} {Q : Value → Shared → Prop} (hd : n.log2 < 1920) (hz : (pad6 n).length ≤ sizeLine)
    (h : Q (.str (pad6 n) (s.toks + 1)) { s with toks := s.toks + 1 + 1 }) : wpAny (model prog w) A (formatField (.int (n : _root_.Int) t) "06d") Q E s := by
  show wpAny _ _ (holding [.int (n : _root_.Int) t] (pyFormat (.int (n : _root_.Int) t) "06d")) Q E s
  refine wpAny_holding ?_
  unfold pyFormat
  refine wpAny_bind (wpAny_mkStr ?_ (by decide))
  refine wpAny_bind (m := callSpecial? (.int (n : _root_.Int) t) (PySem.Str.ofString "__format__") [.str "06d" s.toks]) (wpAny_callSpecial?_slot (name := PySem.Str.ofString "__format__") (typeIs_int _ (n : _root_.Int) t) slot_int_format ?_)
  refine wpAny_call (codeAny_call_builtin slot_int_format.plain entry_int_format (slot_int_format.check _ _ _ _ _ _ _ _ (typeIs_int _ (n : _root_.Int) t) (args_int_format _ _) ?_))
  unfold Builtin.«int.__format__»
  have hne : (("06d" : PySem.Str).length == 0) = false := by decide
  have hasc : (((List.drop 1 ("06d" : PySem.Str).cps.toList).any fun x => decide (x ≥ 128)) || decide (("06d" : PySem.Str).cps.getD 0 0 ≥ 128) && !([60, 62, 61, 94] : List Nat).contains (("06d" : PySem.Str).cps.getD 1 0)) = false := by decide
  simp only [selfAndOne, noKeywords, Int.intOfSelf, asInt?, asStr?, List.isEmpty_nil, if_true, pure_bind, bind_pure, bind_assoc, hne, hasc, Bool.false_eq_true, if_false, show (Value.str ("06d" : PySem.Str) s.toks == Value.none) = false from rfl]
  refine wpAny_bind (wpAny_typeNameOf (T := "str") (typeIs_str _ _ _) (by decide) fun _ => ?_)
  refine wpAny_bind (wpAny_typeNameOfCut_int ?_)
  have hty : spec06.type.getD (if ("06d" : PySem.Str).cps.back? == some 0 then 0 else 100) = 100 := by decide
  simp only [spec06_ok, hty]
  rw [if_pos]
  case hc => decide
  show wpAny _ _ (do let r ← Builtin.overDigitLimit? (n : _root_.Int); _) _ _ _
  rw [PyProof.Rows.overDigitLimit_small (a := (n : _root_.Int)) hd]
  refine wpAny_bind (wpAny_pure ?_)
  show wpAny _ _ (retStr _) _ _ _
  unfold retStr
  have h0 : decide ((n : _root_.Int) < 0) = false := decide_eq_false (by omega)
  rw [h0, Int.natAbs_natCast]
  have fin : ∀ {u : PySem.Str} {R : PySem.Str → Prop}, u = pad6 n → R (pad6 n) → R u := fun e h => e ▸ h
  have nd : (Nat.toDigits 10 n).isEmpty = false := by
    have z := TL.numL_ne n
    unfold TL.numL at z
    cases e : Nat.toDigits 10 n with
    | nil => rw [e] at z; exact absurd rfl z
    | cons _ _ => rfl
  have z0 : ∀ L : _root_.Nat, ((6 : _root_.Int) - (((6 - L : _root_.Nat) : _root_.Int) + (L : _root_.Int))).toNat = 0 := fun L => by omega
  refine wpAny_bind (wpAny_mkStr (wpAny_pure ?_) ?hs2)
  case hs2 =>
    refine fin (R := fun u => u.length ≤ sizeLine) ?_ hz
    conv => lhs; whnf
    simp only [show spec06.fill = 48 from rfl, show spec06.align = 61 from rfl, show spec06.sign = none from rfl, show spec06.width = some 6 from rfl, show spec06.grouping = none from rfl, show spec06.alt = false from rfl]
    simp [z0, pad6]
  dsimp only
  refine wpAny_bind (wpAny_isInstance (typeIs_str _ _ _) isSubtype_str_str (wpAny_pure ?_))
  refine fin (R := fun u => Q (.str u (s.toks + 1)) { s with toks := s.toks + 1 + 1 }) ?_ h
  conv => lhs; whnf
  simp only [show spec06.fill = 48 from rfl, show spec06.align = 61 from rfl, show spec06.sign = none from rfl, show spec06.width = some 6 from rfl, show spec06.grouping = none from rfl, show spec06.alt = false from rfl]
  simp [z0, pad6]
end DL
set_option Elab.async false
set_option linter.all false
set_option maxRecDepth 100000
set_option maxHeartbeats 4000000
namespace DL
open PySem PySem.Spec PyProof.Rows L2

/-! ### the head: a law's promise, where no repr is under way -/
section
variable {P : Program} {w : World} {K : PySem.W.Frag} {mg mb : Str → Option Value} {k : Nat} {fa a : Addr} {fd : FuncData} {x : Str} {sp : Sp} {s1 : Shared} {vs : List Value} {ns : List Int}
/-- from an abstract heap that tracks the script alone, or nothing -/
theorem head_at (KX : K.In s1.heap) (hns : s1.heap.Ns mainGlobals mg) (hb : s1.heap.Ns builtinsNs mb) (hbb : ∀ x : Str, x ≠ "__name__" → mb x = bootBuiltins x) (hlim : s1.heap.NoLimit) (hg : s1.gens = #[])
    (ha : s1.heap.get? a = some { cls := .type "list", data := .seq vs.toArray }) (hr : Room k callerA)
    (F : ∀ base : Heap, K.In base → base.Ns mainGlobals mg → FnG P w K mg base (L2.CX P w) k fa fd [x] sp) (hbind : ∀ (s : Shared) (u : Value), BindsTo s fd ⟨[u], []⟩ [(x, u)])
    (H : Hp) (hO : Only H) (ok : HOk P w H s1.heap) (hA : ∀ b, H b ≠ none → b = a ∧ K.lookup a = none) (hsp : sp [.ref a] H (fun v _ => v = .bl true) fun _ _ _ => False) :
    codeAny (model P w) callerA (.call (.ref fa) ⟨[.ref a], []⟩) (fun r s' => r = .ok (.ret (.bool true)) ∧ OldK s1.heap s'.heap ∧ s'.os = s1.os ∧ AllBare s'.gens) s1 := by
  have off : ∀ (b : Addr) (o : Obj), s1.heap.get? b = some o → (b = a → False) → H b = none := fun b o e ne => Classical.byContradiction fun z => ne (hA b z).1
  have dict : ∀ (b : Addr) (m : Str → Option Value), s1.heap.Ns b m → (hidT s1.heap H).Ns b m := by
    rintro b m ⟨o, es, ep, e, d, r⟩
    refine ⟨o, es, ep, hidT_get e (off b o e ?_), d, r⟩
    rintro rfl
    rw [ha] at e
    cases e
    cases d
  have inH : K.In (hidT s1.heap H) := fun b o e => hidT_get (KX b o e) (Classical.byContradiction fun z => by
    obtain ⟨rfl, z2⟩ := hA b z
    rw [z2] at e
    cases e)
  obtain ⟨mc, hc1, hc2⟩ := hlim
  have mod : Mod K mg (hidT s1.heap H) := ⟨inH, dict _ _ hns, ⟨mb, dict _ _ hb, hbb⟩, ⟨mc, dict _ _ hc1, hc2⟩⟩
  have e0 : Env0 P w K mg (hidT s1.heap H) callerA [] s1 H := by
    refine ⟨rfl, mod, fun b o e => of_hidT e, Nat.le_of_eq (hidT_size _ _), trivial, ?_, ok, .of_eq hg⟩
    intro b hb
    have hb' : b ∈ ([] : List Addr) := hb
    cases hb'
  have run := (F _ inH (dict _ _ hns)).go callerA [] s1 H ⟨[.ref a], []⟩ [.ref a] [.ref a] _ _ rfl hr e0 (hbind s1 (.ref a)) (.cons rfl .nil) hsp
  refine codeAny_mono run ?_
  intro r s' h
  match r with
  | .error e =>
    obtain ⟨_, _, _, _, _, _, _, _, _, _, _, _, z⟩ := h
    exact False.elim z
  | .ok .next => exact False.elim h
  | .ok .brk => exact False.elim h
  | .ok .cont => exact False.elim h
  | .ok (.ret u) =>
    obtain ⟨v, H', os, bare, un, hok', rv, q⟩ := h
    have q' : v = .bl true := q
    subst q'
    have hu : u = Value.bool true := rv
    subst hu
    refine ⟨rfl, OldK.of_keep fun b o e => ?_, os, bare⟩
    rcases hO b with z | ⟨ob, xs, z⟩
    · exact un.keep b o e z (by intro y; have y' : b ∈ ([] : List Addr) := y; cases y') (by simp)
    · have e1 := (ok b _ z).1
      have e2 := (hok' b _ (un.frzs b ob _ z)).1
      rw [e1] at e
      cases e
      exact e2
/-- a law's def that gives True at every script -/
def LawD (most : Nat) (F : List M → RF) : Prop := ∀ ns : List Int, ns.length ≤ most → ∃ os, F [.d (.list (ns.map .int))] = .ok (.d (.bool true)) os
theorem Rps.ofInt {F : Hp} : ∀ ns : List Int, Rps K F (ns.map V.int) (ns.map PyData.int)
  | [] => .nil
  | n :: r => .cons (.int n) (Rps.ofInt r)
theorem sp_law {n : Nat} {G : List M → RF} (L : LawD n G) {H : Hp} (hl : ns.length ≤ n) (hS : SqL K H a (ns.map V.int)) : spD K mg 1 [false] G [.ref a] H (fun v _ => v = .bl true) fun _ _ _ => False := by
  obtain ⟨os, e⟩ := L ns hl
  refine ⟨H, [.d (.list (ns.map .int))], [], rfl, rfl, ⟨Le.refl _, List.nodup_nil, fun a ha => by cases ha⟩, .cons (f1 := []) (f2 := []) (.d (.lst hS (Rps.ofInt ns))) .nil, ?_⟩
  rw [e]
  intro v F' H' fq fo y w' rm ro
  cases rm with
  | d r =>
    cases r
    rfl
end
theorem walk_g {l : PySem.W.OpenLaw} {n k : Nat} {q : Program} {loose : List Str} {XP : (Str → Option Value) → Heap → Prop} {YP : World → Heap → Prop} {d : DefRec} {K : Params → PySem.W.Frag} {G : List M → RF} {x : Str}
    (hn : l.most = some n) (hn2 : n ≤ sizeLine) (hdf : d.params.defaults = []) (hr : Room k callerA)
    (hY : ∀ (w : World) (h : Heap), YP w h → (K w.params).In h) (L : LawD n G)
    (F : ∀ (w : World) (mg : Str → Option Value) (fa : Addr) (h : Heap), (K w.params).In h → h.Ns mainGlobals mg → mg d.name = some (.ref fa) →
      ∃ fd : FuncData, (∀ (s : Shared) (u : Value), BindsTo s fd ⟨[u], []⟩ [(x, u)]) ∧
        ∀ base : Heap, (K w.params).In base → base.Ns mainGlobals mg → FnG l.prog w (K w.params) mg base (L2.CX l.prog w) k fa fd [x] (spD (K w.params) mg 1 [false] G)) :
    PySem.W.WalkO q loose XP YP l.row.toRowW d [] (fun f vs => PySem.call f vs) := by
  apply Att.attach_call hn hdf
  intro w s0 s1 mg mb fa o pm cd doc a vs ns ground Y ho hd hcd hmg hobj hin hlen hg
  have KX := hY w _ Y
  obtain ⟨fd, hb, hF⟩ := F w mg fa _ KX ground.T.g hmg
  have rv := vals_ints hin
  have hz : ns.length ≤ sizeLine := Nat.le_trans hlen hn2
  cases hk : (K w.params).lookup a with
  | some o2 =>
    -- one of the module's own objects
    have e := KX a o2 hk
    rw [hobj] at e
    cases e
    have hS : SqL (K w.params) (fun _ => none) a (ns.map V.int) := .inr ⟨_, vs.toArray, _, hk, rfl, rfl, rfl, by rw [List.size_toArray, hin.length]; exact hz, by simpa using rv⟩
    exact head_at KX ground.T.g ground.T.b ground.T.builtins ground.T.nolimit hg hobj hr hF hb (fun _ => none) (fun _ => .inl rfl) (fun b u z => by cases (show (none : Option HO) = some u from z)) (fun b z => absurd rfl z) (sp_law L hlen hS)
  | none =>
    let H : Hp := fun b => if b = a then some (.frz { cls := .type "list", data := .seq vs.toArray } (.lst (ns.map V.int))) else none
    have h1 : H a = some (.frz { cls := .type "list", data := .seq vs.toArray } (.lst (ns.map V.int))) := if_pos rfl
    have h2 : ∀ b, b ≠ a → H b = none := fun b hb => if_neg hb
    refine head_at KX ground.T.g ground.T.b ground.T.builtins ground.T.nolimit hg hobj hr hF hb H (fun b => ?_) (fun b u z => ?_) (fun b z => ⟨Classical.byContradiction fun e => z (h2 b e), hk⟩) (sp_law L hlen (.inl (.inr ⟨_, h1⟩)))
    · by_cases hb : b = a
      · subst hb
        exact .inr ⟨_, _, h1⟩
      · exact .inl (h2 b hb)
    · by_cases hb : b = a
      · subst hb
        rw [h1] at z
        cases z
        exact ⟨hobj, by rw [List.length_map]; exact hz, vs, _, rv, hobj⟩
      · rw [h2 b hb] at z
        cases z
end DL
set_option Elab.async false
set_option linter.all false
set_option maxRecDepth 100000
set_option maxHeartbeats 4000000
namespace DL
open PySem PySem.Spec PyProof.Rows L2

/-! ### a text's methods of one thing, of none -/
def SmD (K : PySem.W.Frag) (r : V → List V → Hp → VK → Prop) (g : Str → D → Option D) : Prop := ∀ F H (a : Str) y b z Q, Le F H → Rp K H y b → g a b = some z → (∀ v F' H', Gr F H F' H' → Rp K F' v z → Q v H') → r (.str a) [y] H Q
def Sm0 (K : PySem.W.Frag) (r : V → List V → Hp → VK → Prop) (g : Str → Option D) : Prop := ∀ F H (a : Str) z Q, Le F H → g a = some z → (∀ v F' H', Gr F H F' H' → Rp K F' v z → Q v H') → r (.str a) [] H Q
section
variable {X : Cx} {W : WX} {pos : Pos} {a b o e : Expr} {fa fb fo : Env → R D} {apos cpos p : Pos}
def onS {α : Type} (d : D) (k : Str → R α) : R α := match d with
  | .str z => k z
  | _ => .stuck
def f2S (g : Str → D → Option D) (fo fa : Env → R D) : Env → R D := fun env => (fo env).bind fun d e1 => onS d fun z => (fa e1).bind fun x e2 => .of (g z x) e2
def f1S (g : Str → Option D) (fo : Env → R D) : Env → R D := fun env => (fo env).bind fun d e1 => onS d fun z => .of (g z) e1
theorem ev_sm {name : Str} {id : String} {r : V → List V → Hp → VK → Prop} {g : Str → D → Option D} (slot : Slot "str" name id) (hty : typeOf (.builtin id) = pure (.type "method_descriptor")) (hm : MtR X id r) (hg : SmD X.K r g) (ho : EV X W o fo) (ha : EB X W e fa)
    (hbase : attributeBase o name X.env (eval o X.env) = eval o X.env := by rfl)
    (hfew : ((backTo cpos (starEach [e] X.env)).all (fun x => !x.1) && (backToKw cpos (keywordEach [] X.env)).all (fun x => x.1.isSome)
      && decide ([e].length + ([] : List Keyword).length + (if ([] : List Keyword).isEmpty then 0 else 1) < 30)) = true := by rfl)
    (hline : (apos.endLine == cpos.line) = true := by rfl) (hs : starEach [e] X.env = (false, eval e X.env) :: starEach [] X.env := by rfl) (hplain : (backTo cpos (starEach [] X.env)).any (·.1) = false := by rfl) :
    EV X W (.Call (.Attribute o name apos) [e] [] cpos) (f2S g fo fa) := by
  obtain ⟨to, po, ko⟩ := ho
  obtain ⟨ta, pa, ka⟩ := ha
  refine ⟨_, pe_bm PySem.F.plainAttrs_str slot hty hm po (pa_cons pa pa_nil hs) hbase hfew hline hs hplain, fun env σ F H fp Q w re q => ?_⟩
  refine ko env σ F H fp _ w re (Post.seq (rep1 := repV X.K) q fun d env1 v F1 H1 fq fp1 y1 w1 re1 r1 q1 => ?_)
  obtain ⟨rfl, r1⟩ := r1
  cases d with
  | str z =>
    cases r1
    refine ⟨rfl, ka env1 σ F1 H1 fp1 _ w1 re1 (Post.seq (rep1 := repB X.K) q1 fun c env2 y F2 H2 fq fp2 y2 w2 re2 r2 q2 => ?_)⟩
    obtain ⟨rfl, r2⟩ := r2
    obtain ⟨u, hu, q3⟩ := q2.of
    exact hg F2 H2 z y c u Q w2.le r2 hu fun v F' H' gr r' => q3.gr w2 re2 gr ⟨rfl, r'⟩
  | _ => exact False.elim q1
theorem ev_sm0 {name : Str} {id : String} {r : V → List V → Hp → VK → Prop} {g : Str → Option D} (slot : Slot "str" name id) (hty : typeOf (.builtin id) = pure (.type "method_descriptor")) (hm : MtR X id r) (hg : Sm0 X.K r g) (ho : EV X W o fo)
    (hbase : attributeBase o name X.env (eval o X.env) = eval o X.env := by rfl)
    (hline : (apos.endLine == cpos.line) = true := by rfl) :
    EV X W (.Call (.Attribute o name apos) [] [] cpos) (f1S g fo) := by
  obtain ⟨to, po, ko⟩ := ho
  refine ⟨_, pe_bm0 PySem.F.plainAttrs_str slot hty hm po hbase hline, fun env σ F H fp Q w re q => ?_⟩
  refine ko env σ F H fp _ w re (Post.seq (rep1 := repV X.K) q fun d env1 v F1 H1 fq fp1 y1 w1 re1 r1 q1 => ?_)
  obtain ⟨rfl, r1⟩ := r1
  cases d with
  | str z =>
    cases r1
    obtain ⟨u, hu, q3⟩ := q1.of
    exact ⟨rfl, hg F1 H1 z u Q w1.le hu fun v F' H' gr r' => q3.gr w1 re1 gr ⟨rfl, r'⟩⟩
  | _ => exact False.elim q1
def gStarts : Str → D → Option D
  | a, .str b => some (.bool (Txt.startswith a b))
  | _, _ => none
theorem ev_startswith (ho : EV X W o fo) (ha : EB X W e fa) (hbase : attributeBase o "startswith" X.env (eval o X.env) = eval o X.env := by rfl)
    (hfew : ((backTo cpos (starEach [e] X.env)).all (fun x => !x.1) && (backToKw cpos (keywordEach [] X.env)).all (fun x => x.1.isSome)
      && decide ([e].length + ([] : List Keyword).length + (if ([] : List Keyword).isEmpty then 0 else 1) < 30)) = true := by rfl)
    (hline : (apos.endLine == cpos.line) = true := by rfl) (hs : starEach [e] X.env = (false, eval e X.env) :: starEach [] X.env := by rfl) : EV X W (.Call (.Attribute o "startswith" apos) [e] [] cpos) (f2S gStarts fo fa) := by
  refine ev_sm PySem.F.slot_str_startswith PySem.F.type_str_startswith mt_startswith ?_ ho ha hbase hfew hline hs
  intro F H a y b z Q l r h q
  cases b <;> simp only [gStarts, Option.some.injEq, reduceCtorEq] at h
  subst h
  cases r
  exact ⟨_, _, rfl, rfl, q _ F H (Gr.refl l) (.bl _)⟩
def gPart : Str → D → Option D
  | a, .str b => if (b.length == 0) = false ∧ a.length ≤ sizeLine then some (.tuple [.str (Txt.partition a b).1, .str (Txt.partition a b).2.1, .str (Txt.partition a b).2.2]) else none
  | _, _ => none
theorem ev_partition (ho : EV X W o fo) (ha : EB X W e fa) (hbase : attributeBase o "partition" X.env (eval o X.env) = eval o X.env := by rfl)
    (hfew : ((backTo cpos (starEach [e] X.env)).all (fun x => !x.1) && (backToKw cpos (keywordEach [] X.env)).all (fun x => x.1.isSome)
      && decide ([e].length + ([] : List Keyword).length + (if ([] : List Keyword).isEmpty then 0 else 1) < 30)) = true := by rfl)
    (hline : (apos.endLine == cpos.line) = true := by rfl) (hs : starEach [e] X.env = (false, eval e X.env) :: starEach [] X.env := by rfl) : EV X W (.Call (.Attribute o "partition" apos) [e] [] cpos) (f2S gPart fo fa) := by
  refine ev_sm PySem.F.slot_str_partition PySem.F.type_str_partition mt_partition ?_ ho ha hbase hfew hline hs
  intro F H a y b z Q l r h q
  cases b <;> simp only [gPart, reduceCtorEq] at h
  split at h
  · rename_i hc
    cases h
    cases r
    refine ⟨_, _, rfl, rfl, hc.1, hc.2, fun p hp => ?_⟩
    exact q _ _ _ (Gr.put l hp) (.tup (.inl (.inl upd_same)) (.cons (.str _) (.cons (.str _) (.cons (.str _) .nil))))
  · cases h
def gSplit : Str → D → Option D
  | a, .str b => if (b.length == 0) = false ∧ a.length + 2 ≤ sizeLine then some (.list ((Txt.split a b).map .str)) else none
  | _, _ => none
theorem ev_split (ho : EV X W o fo) (ha : EB X W e fa) (hbase : attributeBase o "split" X.env (eval o X.env) = eval o X.env := by rfl)
    (hfew : ((backTo cpos (starEach [e] X.env)).all (fun x => !x.1) && (backToKw cpos (keywordEach [] X.env)).all (fun x => x.1.isSome)
      && decide ([e].length + ([] : List Keyword).length + (if ([] : List Keyword).isEmpty then 0 else 1) < 30)) = true := by rfl)
    (hline : (apos.endLine == cpos.line) = true := by rfl) (hs : starEach [e] X.env = (false, eval e X.env) :: starEach [] X.env := by rfl) : EV X W (.Call (.Attribute o "split" apos) [e] [] cpos) (f2S gSplit fo fa) := by
  refine ev_sm PySem.F.slot_str_split PySem.F.type_str_split mt_split ?_ ho ha hbase hfew hline hs
  intro F H a y b z Q l r h q
  cases b <;> simp only [gSplit, reduceCtorEq] at h
  split at h
  · rename_i hc
    cases h
    cases r
    refine ⟨_, _, rfl, rfl, hc.1, hc.2, fun p hp => ?_⟩
    exact q _ _ _ (Gr.put l hp) (.lst (.inl (.inl upd_same)) (Rps.ofStr _))
  · cases h
def gZfill : Str → D → Option D
  | a, .int i => if PadOk i = true then some (.str (Txt.zfill a i)) else none
  | _, _ => none
theorem ev_zfill (ho : EV X W o fo) (ha : EB X W e fa) (hbase : attributeBase o "zfill" X.env (eval o X.env) = eval o X.env := by rfl)
    (hfew : ((backTo cpos (starEach [e] X.env)).all (fun x => !x.1) && (backToKw cpos (keywordEach [] X.env)).all (fun x => x.1.isSome)
      && decide ([e].length + ([] : List Keyword).length + (if ([] : List Keyword).isEmpty then 0 else 1) < 30)) = true := by rfl)
    (hline : (apos.endLine == cpos.line) = true := by rfl) (hs : starEach [e] X.env = (false, eval e X.env) :: starEach [] X.env := by rfl) : EV X W (.Call (.Attribute o "zfill" apos) [e] [] cpos) (f2S gZfill fo fa) := by
  refine ev_sm PySem.F.slot_str_zfill PySem.F.type_str_zfill mt_zfill ?_ ho ha hbase hfew hline hs
  intro F H a y b z Q l r h q
  cases b <;> simp only [gZfill, reduceCtorEq] at h
  split at h
  · rename_i hc
    cases h
    cases r
    exact ⟨_, _, rfl, rfl, hc, q _ F H (Gr.refl l) (.str _)⟩
  · cases h
def joinD (a : Str) (ds : List D) : Option D := (allS ds).bind fun ys => if (ys.map (·.length)).sum + ys.length * a.length ≤ 16777216 then some (.str (Txt.join a ys)) else none
def gJoin : Str → D → Option D
  | a, .list ds => joinD a ds
  | a, .tuple ds => joinD a ds
  | _, _ => none
theorem joinD_inv {a : Str} {ds : List D} {z : D} (h : joinD a ds = some z) : ∃ ys, allS ds = some ys ∧ (ys.map (·.length)).sum + ys.length * a.length ≤ 16777216 ∧ z = .str (Txt.join a ys) := by
  unfold joinD at h
  obtain ⟨ys, h1, h2⟩ := Option.bind_eq_some_iff.mp h
  split at h2
  · rename_i hc
    cases h2
    exact ⟨ys, h1, hc, rfl⟩
  · cases h2
theorem ev_join (ho : EV X W o fo) (ha : EB X W e fa) (hbase : attributeBase o "join" X.env (eval o X.env) = eval o X.env := by rfl)
    (hfew : ((backTo cpos (starEach [e] X.env)).all (fun x => !x.1) && (backToKw cpos (keywordEach [] X.env)).all (fun x => x.1.isSome)
      && decide ([e].length + ([] : List Keyword).length + (if ([] : List Keyword).isEmpty then 0 else 1) < 30)) = true := by rfl)
    (hline : (apos.endLine == cpos.line) = true := by rfl) (hs : starEach [e] X.env = (false, eval e X.env) :: starEach [] X.env := by rfl) : EV X W (.Call (.Attribute o "join" apos) [e] [] cpos) (f2S gJoin fo fa) := by
  refine ev_sm PySem.F.slot_str_join PySem.F.type_str_join mt_join ?_ ho ha hbase hfew hline hs
  intro F H a y b z Q l r h q
  cases b with
  | list ds =>
    obtain ⟨ys, h1, h2, rfl⟩ := joinD_inv h
    cases r with
    | lst hq rs =>
      have e := allS_rep rs h1
      subst e
      exact ⟨_, _, ys, rfl, rfl, .inl hq, h2, q _ F H (Gr.refl l) (.str _)⟩
  | tuple ds =>
    obtain ⟨ys, h1, h2, rfl⟩ := joinD_inv h
    cases r with
    | tup hq rs =>
      have e := allS_rep rs h1
      subst e
      exact ⟨_, _, ys, rfl, rfl, .inr hq, h2, q _ F H (Gr.refl l) (.str _)⟩
  | _ => cases h

/-! ### f-strings -/
def gFmt : D → Option D
  | .str y => if y.length ≤ sizeLine then some (.str y) else none
  | .int i => if i.natAbs.log2 < 1920 then some (.str (toString i)) else none
  | _ => none
theorem ev_fmt (ha : EB X W e fa) : EV X W (.FormattedValue e (-1) none pos) (f1 gFmt fa) := by
  obtain ⟨t, p, k⟩ := ha
  refine ⟨_, pe_fmt p, fun env σ F H fp Q w re q => k env σ F H fp _ w re (Post.seq (rep1 := repB X.K) q fun d env1 v F1 H1 fq fp1 y w1 re1 r1 q1 => ?_)⟩
  obtain ⟨rfl, r1⟩ := r1
  obtain ⟨z, hz, q2⟩ := q1.of
  cases d with
  | str s =>
    simp only [gFmt] at hz
    split at hz
    · rename_i hl
      cases hz
      cases r1
      exact .inl ⟨s, rfl, hl, q2.gr w1 re1 (Gr.refl w1.le) ⟨rfl, .str _⟩⟩
    · cases hz
  | int i =>
    simp only [gFmt] at hz
    split at hz
    · rename_i hl
      cases hz
      cases r1
      exact .inr ⟨i, rfl, hl, q2.gr w1 re1 (Gr.refl w1.le) ⟨rfl, .str _⟩⟩
    · cases hz
  | _ => cases hz
/-- the texts one behind the other -/
def EJ (X : Cx) (W : WX) (es : List Expr) (f : Str → Env → R Str) : Prop :=
  ∃ ts : List TE, PJ X es ts ∧ ∀ acc env σ F H fp (Q : Str → Hp → Prop), Wd F H fp → RpE X.K F H env σ fp → Post X W σ F H fp (fun _ _ (b : Str) a fq => fq = [] ∧ b = a) Q (f acc env) → tJs ts acc σ H Q
def fJ0 : Str → Env → R Str := fun acc env => .ok acc env
def fJ (fa : Env → R D) (fr : Str → Env → R Str) : Str → Env → R Str := fun acc env => (fa env).bind fun d e1 => onS d fun y => if (acc ++ y).length ≤ sizeLine then fr (acc ++ y) e1 else .stuck
theorem ej_nil : EJ X W [] fJ0 := ⟨[], .nil, fun acc env σ F H fp Q w re q => q acc F H [] fp (Ev.refl _ _ _) w re ⟨rfl, rfl⟩⟩
theorem ej_cons {es : List Expr} {fr : Str → Env → R Str} (ha : EV X W e fa) (hr : EJ X W es fr) : EJ X W (e :: es) (fJ fa fr) := by
  obtain ⟨t, p, k⟩ := ha
  obtain ⟨ts, ps, ks⟩ := hr
  refine ⟨t :: ts, .cons p ps, fun acc env σ F H fp Q w re q => k env σ F H fp _ w re (Post.seq (rep1 := repV X.K) q fun d env1 v F1 H1 fq fp1 y1 w1 re1 r1 q1 => ?_)⟩
  obtain ⟨rfl, r1⟩ := r1
  cases d with
  | str y =>
    cases r1
    have q1' : Post X W σ F1 H1 ([] ++ fp1) _ Q (if (acc ++ y).length ≤ sizeLine then fr (acc ++ y) env1 else .stuck) := q1
    split at q1'
    · rename_i hl
      exact ⟨y, rfl, hl, ks (acc ++ y) env1 σ F1 H1 fp1 Q w1 re1 q1'⟩
    · exact False.elim q1'
  | _ => exact False.elim q1
def fJoined (f : Str → Env → R Str) : Env → R D := fun env => (f Str.empty env).bind fun y e => .ok (.str y) e
theorem ev_joined {v1 v2 : Expr} {rest : List Expr} {f : Str → Env → R Str} (h : EJ X W (v1 :: v2 :: rest) f) : EV X W (.JoinedStr (v1 :: v2 :: rest) pos) (fJoined f) := by
  obtain ⟨ts, ps, ks⟩ := h
  refine ⟨_, pe_joined ps, fun env σ F H fp Q w re q => ks Str.empty env σ F H fp _ w re (Post.seq q fun y env1 z F1 H1 fq fp1 y1 w1 re1 r1 q1 => ?_)⟩
  obtain ⟨rfl, rfl⟩ := r1
  exact q1 (.str z) F1 H1 [] fp1 (Ev.refl _ _ _) w1 re1 ⟨rfl, .str _⟩
end
end DL
set_option Elab.async false
set_option linter.all false
set_option maxRecDepth 100000
set_option maxHeartbeats 4000000

namespace DL
open PySem PySem.Spec PyProof.Rows L2
section
variable {X : Cx} {W : WX} {pos : Pos} {a b o e : Expr} {fa fb fo : Env → R D} {apos cpos p : Pos}
/-! ### {x:06d} -/
def gFmt6 : D → Option D
  | .int (.ofNat n) => if n.log2 < 1920 ∧ (pad6 n).length ≤ sizeLine then some (.str (pad6 n)) else none
  | _ => none
theorem ev_fmt6 {spec : Expr} (hs : PE X spec (tC (.str "06d"))) (ha : EV X W e fa) : EV X W (.FormattedValue e (-1) (some spec) pos) (f1 gFmt6 fa) := by
  obtain ⟨t, pe, k⟩ := ha
  refine ⟨fun σ H Q => t σ H fun x H1 => ∃ n : _root_.Nat, x = .int n ∧ n.log2 < 1920 ∧ (pad6 n).length ≤ sizeLine ∧ Q (.str (pad6 n)) H1, ⟨fun pins s σ H Q I h => ?_⟩, fun env σ F H fp Q w re q => k env σ F H fp _ w re (Post.seq (rep1 := repV X.K) q fun d env1 v F1 H1 fq fp1 y w1 re1 r1 q1 => ?_)⟩
  · refine wpAny_FormattedValue_spec (thn (pe.run pins s σ H _ I h) fun v s1 hv => ?_)
    obtain ⟨x, H1, I1, r1, n, rfl, h1, h2, q⟩ := hv
    obtain ⟨t1, rfl⟩ := r1
    refine thn (hs.run pins s1 σ H1 (fun y H2 => y = .str "06d" ∧ H2 = H1) I1 ⟨rfl, rfl⟩) fun u s2 hu => ?_
    obtain ⟨y, H2, I2, r2, rfl, rfl⟩ := hu
    obtain ⟨t2, rfl⟩ := r2
    exact ⟨_, t2, rfl, format_06 h1 h2 ⟨.str (pad6 n), _, I2.tok _, ⟨_, rfl⟩, q⟩⟩
  · obtain ⟨rfl, r1⟩ := r1
    obtain ⟨z, hz, q2⟩ := q1.of
    unfold gFmt6 at hz
    split at hz
    · rename_i n
      split at hz
      · rename_i hc
        cases hz
        cases r1
        exact ⟨n, rfl, hc.1, hc.2, q2.gr w1 re1 (Gr.refl w1.le) ⟨rfl, .str _⟩⟩
      · cases hz
    · cases hz

/-! ### enumerate(text), enumerate(list) -/
def Itse (x : Str) : It :=
  ⟨fun i _ => i < x.cps.size, fun i H v H' => ∃ T c, v = .ref T ∧ H T = none ∧ x.cps[i]? = some c ∧ H' = upd H T (.tup [.int (i : Nat), .str ⟨#[c]⟩]), fun i _ => x.cps.size ≤ i⟩
theorem turn_enumS {P : Program} {w : World} {K : PySem.W.Frag} {elts : List Expr} {kk : Nat} {tpos : Pos} (en it : Addr) (x : Str) (t : Tok) :
    Turn P w K (.Tuple elts kk tpos) (Itse x) [en, it] en (fun i h => (∃ old, IsEnum h en it ((i : Nat) : Int) old) ∧ h.IsStrIter it (strIterType x) x t i ∧ en ≠ it ∧ i ≤ x.cps.size) where
  mem := by simp
  obj := fun i h st b hb => by
    obtain ⟨⟨old, he⟩, ⟨o, ho, hc, hd⟩, _⟩ := st
    have e' : b = en ∨ b = it := by simpa using hb
    rcases e' with z | z
    · rw [z]; exact ⟨_, he, fun v q => nomatch q⟩
    · rw [z]; exact ⟨o, ho, fun v q => by rw [hd] at q; cases q⟩
  keep := by
    rintro i h h' ⟨⟨old, he⟩, ⟨o, ho, r⟩, hne, hle⟩ k
    exact ⟨⟨old, k en (by simp) _ he⟩, ⟨o, k it (by simp) o ho, r⟩, hne, hle⟩
  item := by
    intro X hP hw hK hc i pins s σ H E I hf st hg
    subst hP hw hK
    obtain ⟨⟨old, he⟩, hit, hne, hle⟩ := st
    have hel : en < s.heap.objs.size := Heap.lt_size he
    have hil : it < s.heap.objs.size := by obtain ⟨_, q, _⟩ := hit; exact Heap.lt_size q
    have Dr : Draws X.prog X.w X.A.in1 it [it] x.cps.size (fun i v => ∃ c u, x.cps[i]? = some c ∧ v = .str ⟨#[c]⟩ u) (fun i h => h.IsStrIter it (strIterType x) x t i) := by
      cases hx : x.cps.all (· < 128)
      · simpa [strIterType, hx] using Draws.strWide (A := X.A.in1) (I.ok.hd hc) it x t
      · simpa [strIterType, hx] using Draws.strAscii (A := X.A.in1) (I.ok.hd hc) it x t
    refine wpAny_pyNext_enum_itemD Dr he hit hg hne (by simpa using hne) fun v h' tk hv ho hit' hT hsz hk => ?_
    obtain ⟨c, u, hcx, rfl⟩ := hv
    refine ⟨_, rfl, wpAny_letOwnedTupleGo_enum (s := { s with heap := h', toks := tk + 1 }) ho fun h'' he' sb => ?_⟩
    have hT2 : h''.get? s.heap.objs.size = some { cls := .type "tuple", data := .seq #[.int i tk, .str ⟨#[c]⟩ u] } := (sb.2 _ (Nat.ne_of_gt hel)).trans hT
    have new : ObjOk X.prog X.w (upd H s.heap.objs.size (.tup [.int (i : Nat), .str ⟨#[c]⟩])) h'' s.heap.objs.size (.tup [.int (i : Nat), .str ⟨#[c]⟩]) :=
      ⟨by show 2 ≤ sizeLine; decide, [.int i tk, .str ⟨#[c]⟩ u], .cons ⟨tk, rfl⟩ (.cons ⟨u, rfl⟩ .nil), ⟨_, hT2, rfl, _, rfl⟩⟩
    have I1 : Inv X pins σ (upd H s.heap.objs.size (.tup [.int (i : Nat), .str ⟨#[c]⟩])) { s with heap := h'', toks := tk + 1 } :=
      I.turnedNew (ch := [en, it]) (fun b ob hb q => (sb.2 b (fun z => hb (by simp [z]))).trans (hk b ob (fun z => hb (by simp [z])) (fun z => hb (by simp [z])) q)) hf (Nat.le_refl _) new
    refine ⟨.ref s.heap.objs.size, _, I1, rfl, ⟨_, c, rfl, I.hok.fresh (Nat.le_refl _), hcx, rfl⟩, ⟨⟨Value.str ⟨#[c]⟩ u, ?_⟩, ?_, hne, hg⟩, fun b hb => ?_⟩
    · have e1 : ((i + 1 : Nat) : Int) = (i : Int) + 1 := by omega
      rw [e1]; exact he'
    · obtain ⟨o, q, r⟩ := hit'
      exact ⟨o, (sb.2 it (Ne.symm hne)).trans q, r⟩
    · have hb' : b < s.heap.objs.size := by
        have e' : b = en ∨ b = it := by simpa using hb
        rcases e' with z | z
        · rw [z]; exact hel
        · rw [z]; exact hil
      rw [upd_ne (Nat.ne_of_lt hb')]
      exact (hf b hb).1
  done := by
    intro X hP hw hK hc i pins s σ H E I hf st hg
    subst hP hw hK
    obtain ⟨⟨old, he⟩, hit, hne, hle⟩ := st
    obtain ⟨f0, f1, f2, f3, f4, f5⟩ := hf it (by simp)
    have hi : i = x.cps.size := Nat.le_antisymm hle hg
    subst hi
    have Dr : Draws X.prog X.w X.A.in1 it [it] x.cps.size (fun i v => ∃ c u, x.cps[i]? = some c ∧ v = .str ⟨#[c]⟩ u) (fun i h => h.IsStrIter it (strIterType x) x t i) := by
      cases hx : x.cps.all (· < 128)
      · simpa [strIterType, hx] using Draws.strWide (A := X.A.in1) (I.ok.hd hc) it x t
      · simpa [strIterType, hx] using Draws.strAscii (A := X.A.in1) (I.ok.hd hc) it x t
    exact wpAny_pyNext_enum_endD Dr he hit fun h' eb => ⟨rfl, I.turned (t' := s.toks) (fun b o hb q => eb b o hb q) f0 f1 f3 f4 f5⟩
  self := fun A i s Q E st h => let ⟨⟨_, he⟩, _⟩ := st; wpAny_pyIter_enum he h
theorem pi_enumS {ta : TA} {tpos : Pos} {elts : List Expr} {kk : Nat} (hg : Gl X "enumerate") (hm : X.mg "enumerate" = none) (ha : PA X [e] ta) (hs : starEach [e] X.env = [(false, eval e X.env)] := by rfl) :
    PI X (.Tuple elts kk tpos) (.Call (.Name "enumerate" p) [e] [] pos) (fun σ H R => ta σ H fun vs H1 => (∃ x, vs = [.str x] ∧ R (Itse x) H1) ∨ ∃ a xs, vs = [.ref a] ∧ SqL X.K H1 a xs ∧ R (Ite X.K a) H1) := by
  refine ⟨fun pins s σ H R I h => ?_⟩
  refine Call_ (ld_blt I hg hm boot_enumerate (PyProof.Rows.callWith_type1 (thn (ha.run pos pins s σ H _ I h) fun us s1 ⟨vs, H1, I1, r1, q1⟩ => ?_) hs rfl))
  have fresh : ∀ b ∈ [s1.heap.objs.size + 1, s1.heap.objs.size], FpOk X pins H1 b := fun b hb => by
    have hle : s1.heap.objs.size ≤ b := by
      simp at hb
      omega
    exact I1.fpOk hle (I1.hok.fresh hle)
  rcases q1 with ⟨x, rfl, q⟩ | ⟨a, xs, rfl, hq, q⟩
  · cases r1 with
    | cons r rr =>
      cases rr
      obtain ⟨t, rfl⟩ := r
      refine call_enumerate_str fun h' he hit hsz hk => wpAny_pyIter_enum he ?_
      have I2 : Inv X pins σ H1 { s1 with heap := h' } := I1.kept (t' := s1.toks) hk
      exact ⟨s1.heap.objs.size + 1, [s1.heap.objs.size + 1, s1.heap.objs.size], _, _, H1, rfl, I2, turn_enumS (s1.heap.objs.size + 1) s1.heap.objs.size x t, ⟨⟨.none, he⟩, hit, Nat.succ_ne_self _, Nat.zero_le _⟩, fresh, q⟩
  · cases r1 with
    | cons r rr =>
      cases rr
      cases r
      obtain ⟨its, rv, p', hz⟩ := I1.list hq
      refine call_enumerate_list p'.isList fun h' he hit hsz hk => wpAny_pyIter_enum he ?_
      have I2 : Inv X pins σ H1 { s1 with heap := h' } := I1.kept (t' := s1.toks) hk
      exact ⟨s1.heap.objs.size + 1, [s1.heap.objs.size + 1, s1.heap.objs.size], _, _, H1, rfl, I2, turn_enum a (s1.heap.objs.size + 1) s1.heap.objs.size, ⟨⟨.none, he⟩, hit, Nat.succ_ne_self _⟩, fresh, q⟩
/-- numbered from k -/
def numL : Nat → List D → List D
  | _, [] => []
  | k, d :: ds => .tuple [.int (k : Int), d] :: numL (k + 1) ds
theorem numL_length : ∀ (k : Nat) (ds : List D), (numL k ds).length = ds.length
  | _, [] => rfl
  | k, d :: ds => by rw [numL, List.length_cons, List.length_cons, numL_length]
theorem numL_get : ∀ {k : Nat} {ds : List D} {i : Nat} {z : D}, (numL k ds)[i]? = some z → ∃ d, ds[i]? = some d ∧ z = .tuple [.int ((k + i : Nat) : Int), d]
  | _, [], _, _, h => by simp [numL] at h
  | k, d :: ds, 0, _, h => by
    simp [numL] at h
    exact ⟨d, rfl, by rw [← h]; rfl⟩
  | k, d :: ds, i + 1, _, h => by
    obtain ⟨y, h1, h2⟩ := numL_get (k := k + 1) (ds := ds) (i := i) (by simpa [numL] using h)
    refine ⟨y, by simpa using h1, ?_⟩
    rw [h2]
    have : k + 1 + i = k + (i + 1) := by omega
    rw [this]
def enumD : List Arg → Option (List D)
  | [.d (.str x)] => some (numL 0 (x.cps.toList.map sign1))
  | [.d (.list ds)] => some (numL 0 ds)
  | _ => none
theorem di_enum {fr : Env → R (List Arg)} {tpos : Pos} {elts : List Expr} {kk : Nat} (hm : X.mg "enumerate" = none) (ha : EA X W [e] fr) (hg : Gl X "enumerate" := by rfl) (hs : starEach [e] X.env = [(false, eval e X.env)] := by rfl) :
    DI X W (.Tuple elts kk tpos) (.Call (.Name "enumerate" p) [e] [] pos) (fItA enumD fr) := by
  obtain ⟨t, pa, k⟩ := ha
  refine ⟨_, pi_enumS hg hm pa hs, fun env σ F H fp Q w re q => k env σ F H fp _ w re (Post.seq (rep1 := repA X.K σ) q fun as env1 vs F1 H1 fq fp1 y w1 re1 r1 q1 => ?_)⟩
  obtain ⟨rfl, r1⟩ := r1
  obtain ⟨z, hz, q2⟩ := q1.of
  unfold enumD at hz
  split at hz
  · rename_i x
    cases hz
    cases r1 with
    | d ra rb =>
      cases ra
      cases rb
      refine .inl ⟨x, rfl, q2 (Itse x) F1 H1 [] fp1 (Ev.refl _ _ _) w1 re1 ⟨rfl, fun F2 H2 l1 l2 i => ⟨fun hi => ?_, fun d hd => ?_⟩⟩⟩
      · rw [numL_length] at hi
        show x.cps.size ≤ i
        simpa using hi
      · obtain ⟨d0, h1, rfl⟩ := numL_get hd
        rw [List.getElem?_map, Option.map_eq_some_iff] at h1
        obtain ⟨c, hc, rfl⟩ := h1
        have hc' : x.cps[i]? = some c := by rw [← Array.getElem?_toList]; exact hc
        refine ⟨(Array.getElem?_eq_some_iff.mp hc').1, fun v H3 y => ?_⟩
        obtain ⟨T, c', rfl, hT, h3, rfl⟩ := y
        rw [hc'] at h3
        cases h3
        refine ⟨upd F2 T (.tup [.int (i : Nat), .str ⟨#[c]⟩]), Gr.put l2 hT, .tup (.inl (.inl upd_same)) ?_⟩
        rw [Nat.zero_add]
        exact .cons (.int _) (.cons (.str _) .nil)
  · rename_i ds
    cases hz
    cases r1 with
    | d ra rb =>
      cases rb
      cases ra with
      | lst h1 rs =>
        rename_i a xs
        refine .inr ⟨a, xs, rfl, w1.le.sl h1, q2 (Ite X.K a) F1 H1 [] fp1 (Ev.refl _ _ _) w1 re1 ⟨rfl, fun F2 H2 l1 l2 i => ?_⟩⟩
        have h2 : SqL X.K H2 a xs := (l1.trans l2).sl h1
        refine ⟨fun hi => ?_, fun d hd => ?_⟩
        · rw [numL_length] at hi
          exact ⟨xs, h2, by rw [rs.length]; exact hi⟩
        · obtain ⟨d0, h3, rfl⟩ := numL_get hd
          obtain ⟨v0, hv, rv⟩ := rs.get h3
          refine ⟨⟨xs, v0, h2, hv⟩, fun v H3 y => ?_⟩
          obtain ⟨T, x, rfl, hT, rfl, hx⟩ := y
          have := hx xs h2
          rw [hv] at this
          cases this
          refine ⟨upd F2 T (.tup [.int (i : Nat), v0]), Gr.put l2 hT, .tup (.inl (.inl upd_same)) ?_⟩
          rw [Nat.zero_add]
          exact .cons (.int _) (.cons ((rv.mono l1).mono (Gr.put l2 hT).l1) .nil)
  · cases hz
end
end DL
set_option Elab.async false
set_option linter.all false
set_option maxRecDepth 100000
set_option maxHeartbeats 4000000
namespace DL
open PySem PySem.Spec PyProof.Rows L2
section
variable {X : Cx} {W : WX} {pos : Pos} {a b o e : Expr} {fa fb fo : Env → R D} {apos cpos p : Pos}
/-! ### a text, a list so many times -/
def repS (x : Str) (n : Int) : Str := ⟨(List.replicate n.toNat x.cps).foldl (· ++ ·) #[]⟩
def rRepS : R2 := fun x y H Q => ∃ z k, x = .str z ∧ y = .int k ∧ 2 ≤ k ∧ k ≤ 1000 ∧ 1 ≤ z.length ∧ z.length ≤ 1000 ∧ (repS z k).length ≤ sizeLine ∧ Q (.str (repS z k)) H
theorem op_repS : OpR X (binaryOp .Mult) rRepS := by
  intro pins s σ H x y v u Q I rx ry h
  obtain ⟨z, k, rfl, rfl, h1, h2, h3, h4, h5, q⟩ := h
  obtain ⟨t, rfl⟩ := rx
  obtain ⟨t', rfl⟩ := ry
  have e1 : ((z.length : Nat) : Int) * k ≤ 1000 * 1000 := Int.le_trans (Int.mul_le_mul_of_nonneg_left h2 (by omega)) (Int.mul_le_mul_of_nonneg_right (by omega) (by omega))
  have e2 : z.length * k.toNat ≤ 1000 * 1000 := Nat.mul_le_mul h4 (by omega)
  refine PySem.P.mul_str ?_ (fun _ _ => ?_) (fun _ _ => ?_) ?_
  · have n1 : ¬ k < -(2 ^ 63) := by omega
    have n2 : ¬ k ≥ 2 ^ 63 := by omega
    rw [decide_eq_false n1, decide_eq_false n2]
    rfl
  · intro hgt
    have h6 : (2 ^ 63 - 1) / k ≥ 1000000000 := by
      refine Int.le_ediv_of_mul_le (by omega) ?_
      have : (1000000000 : Int) * k ≤ 1000000000 * 1000 := Int.mul_le_mul_of_nonneg_left h2 (by omega)
      omega
    omega
  · unfold Builtin.Str.tooLong
    refine decide_eq_false ?_
    rw [sizeLine_eq]
    omega
  · rw [if_neg (by omega), if_neg]
    · exact ⟨h5, .str _, H, I.tok _, ⟨_, rfl⟩, q⟩
    · intro hc
      rw [Bool.or_eq_true, beq_iff_eq, beq_iff_eq] at hc
      omega
def rRepLA (K : PySem.W.Frag) : R2 := fun x y H Q => ∃ l k xs, x = .ref l ∧ y = .int k ∧ SqL K H l xs ∧ 0 ≤ k ∧ k ≤ 1000 ∧ xs.length ≤ 1000 ∧ ∀ p, H p = none → Q (.ref p) (upd H p (.lst (List.replicate k.toNat xs).flatten))
theorem op_repLA : OpR X (binaryOp .Mult) (rRepLA X.K) := by
  intro pins s σ H x y v u Q I rx ry h
  obtain ⟨l, k, xs, rfl, rfl, hq, h1, h2, h3, q⟩ := h
  cases rx
  obtain ⟨t, rfl⟩ := ry
  obtain ⟨its, r, ⟨⟨cls, dd, data, sl⟩, n, ho, hc, hdn, hd⟩, _⟩ := I.list hq
  simp only at hc hd
  subst hc hd
  have hl : its.toArray.size = xs.length := by rw [List.size_toArray, r.length]
  have e2 : its.toArray.size * k.toNat ≤ 1000 * 1000 := by
    rw [hl]
    exact Nat.mul_le_mul h3 (by omega)
  have n1 : ¬ k < -(2 ^ 63) := by omega
  have n2 : ¬ k ≥ 2 ^ 63 := by omega
  refine wpAny_binaryOp_repeat_ref (T := "list") (U := "int") (by decide) ⟨_, ho, rfl⟩ (fun s' => typeIs_int s' k t) noFill_list_mul PySem.F.fills_int_mul PySem.F.slot_int_rmul repeat_list PySem.F.slot_int_index.lookup
    (call_meets PySem.F.slot_int_rmul (typeIs_int s k t) PySem.F.entry_int_rmul (PySem.F.args_int_rmul_2 _ _) (lm_int_rmul_list_any k t l its.toArray n dd sl)
      ⟨ho, rfl, ⟨_, ho, rfl⟩, call_meets PySem.F.slot_list_mul ⟨_, ho, rfl⟩ PySem.F.entry_list_mul (PySem.F.args_list_mul_2 _ _)
        (lm_list_mul_any l its.toArray n dd sl k t (by simp [Builtin.List.listFitsIndex]; omega) (by omega) (by have : sizeLine = 16777216 := sizeLine_eq; rw [notLongL (by omega)]; exact Bool.false_ne_true)) ⟨ho, ?_⟩⟩)
  rw [PyProof.Rows.listMul_foldl_if, List.toList_toArray]
  refine ⟨.ref s.heap.objs.size, _, I.laid (t' := s.toks) (o := .lst (List.replicate k.toNat xs).flatten) (fun c ob z => Heap.get?_push_of_some _ z) (Nat.le_refl _) ?_, rfl, q _ (I.hok.fresh (Nat.le_refl _))⟩
  refine ⟨?_, _, _, r.rep k.toNat, Heap.get?_push_size _ rfl⟩
  rw [PyProof.Rows.lm_len_rep_flat, Nat.mul_comm, ← hl, sizeLine_eq]
  exact Nat.le_trans e2 (by decide)
def gMulA : D → D → Option D
  | .int i, .int j => gMul (.int i) (.int j)
  | .str z, .int k => if (2 ≤ k ∧ k ≤ 1000) ∧ (1 ≤ z.length ∧ z.length ≤ 1000) ∧ (repS z k).length ≤ sizeLine then some (.str (repS z k)) else none
  | .list ds, .int k => if 0 ≤ k ∧ k ≤ 1000 ∧ ds.length ≤ 1000 then some (.list (List.replicate k.toNat ds).flatten) else none
  | _, _ => none
theorem Rps.cat {K : PySem.W.Frag} {F : Hp} : ∀ {vs ws : List V} {ds es : List D}, Rps K F vs ds → Rps K F ws es → Rps K F (vs ++ ws) (ds ++ es)
  | _, _, _, _, .nil, h => h
  | _, _, _, _, .cons r rs, h => .cons r (Rps.cat rs h)
theorem Rps.rep {K : PySem.W.Frag} {F : Hp} {vs : List V} {ds : List D} (r : Rps K F vs ds) : ∀ n : Nat, Rps K F (List.replicate n vs).flatten (List.replicate n ds).flatten
  | 0 => .nil
  | n + 1 => by
    rw [List.replicate_succ, List.replicate_succ, List.flatten_cons, List.flatten_cons]
    exact Rps.cat r (Rps.rep r n)
theorem ev_mulA (ha : EV X W a fa) (hb : EV X W b fb) : EV X W (.BinOp a .Mult b pos) (f2 gMulA fa fb) := by
  refine ev_op ((op_mul.or op_repS).or op_repLA) ?_ ha hb
  intro F H x y d e z Q l rx ry hz q
  unfold gMulA at hz
  split at hz
  · exact .inl (.inl (od_mul F H x y _ _ z Q l rx ry hz q))
  · split at hz
    · rename_i hc
      cases hz
      cases rx
      cases ry
      exact .inl (.inr ⟨_, _, rfl, rfl, hc.1.1, hc.1.2, hc.2.1.1, hc.2.1.2, hc.2.2, q _ F H (Gr.refl l) (.str _)⟩)
    · cases hz
  · split at hz
    · rename_i hc
      cases hz
      cases ry
      cases rx with
      | lst hs rs =>
        refine .inr ⟨_, _, _, rfl, rfl, l.sl hs, hc.1, hc.2.1, by rw [rs.length]; exact hc.2.2, fun p hp => ?_⟩
        exact q _ _ _ (Gr.put l hp) (.lst (.inl (.inl upd_same)) ((Rps.rep rs _).mono (Gr.put l hp).l1))
    · cases hz
  · cases hz

/-! ### range(a, b, c) -/
def rngC (lo c : Int) (n : Nat) : List D := (List.range n).map fun i => .int (lo + (i : Nat) * c)
def rng3 : List Arg → Option (List D)
  | [.d (.int i), .d (.int j), .d (.int c)] => if 1 ≤ c ∧ c.natAbs.log2 < 30 ∧ Builtin.Range.small i j c = true then some (rngC i c (Builtin.Range.rangeSize i j c).toNat) else none
  | _ => none
theorem walks_rangeC {K : PySem.W.Frag} {F : Hp} {lo c : Int} {n : Nat} : Walks K (Itc lo c n) (rngC lo c n) F := fun F2 H2 l1 l2 i => by
  refine ⟨fun hi => ?_, fun d hd => ?_⟩
  · show n ≤ i
    simpa [rngC] using hi
  · unfold rngC at hd
    rw [List.getElem?_map, Option.map_eq_some_iff] at hd
    obtain ⟨j, h1, rfl⟩ := hd
    obtain ⟨h2, h3⟩ := List.getElem?_eq_some_iff.mp h1
    rw [List.length_range] at h2
    rw [List.getElem_range] at h3
    subst h3
    refine ⟨h2, fun x H3 y => ?_⟩
    obtain ⟨rfl, rfl⟩ := y
    exact ⟨F2, Gr.refl l2, .int _⟩
theorem di_range3 {tg a b c : Expr} {fr : Env → R (List Arg)} (hm : X.mg "range" = none) (ha : EA X W [a, b, c] fr) (hg : Gl X "range" := by rfl)
    (hs : starEach [a, b, c] X.env = (false, eval a X.env) :: starEach [b, c] X.env := by rfl) (hpl : (backTo pos (starEach [b, c] X.env)).any (·.1) = false := by rfl) : DI X W tg (.Call (.Name "range" p) [a, b, c] [] pos) (fItA rng3 fr) := by
  obtain ⟨t, pa, k⟩ := ha
  refine ⟨_, pi_range3 hg hm pa hs hpl, fun env σ F H fp Q w re q => k env σ F H fp _ w re (Post.seq (rep1 := repA X.K σ) q fun as env1 vs F1 H1 fq fp1 y w1 re1 r1 q1 => ?_)⟩
  obtain ⟨rfl, r1⟩ := r1
  obtain ⟨z, hz, q2⟩ := q1.of
  unfold rng3 at hz
  split at hz
  · rename_i i j c
    split at hz
    · rename_i hc
      cases hz
      cases r1 with
      | d ra rb =>
        cases ra
        cases rb with
        | d rb rc =>
          cases rb
          cases rc with
          | d rc rd =>
            cases rc
            cases rd
            exact ⟨i, j, c, _, rfl, ⟨by omega, by have := lt_of_log2 hc.2.1; omega, hc.2.2, PyProof.Rows.rangeSize_toNat _ _ _⟩, q2 (Itc i c _) F1 H1 [] fp1 (Ev.refl _ _ _) w1 re1 ⟨rfl, walks_rangeC⟩⟩
    · cases hz
  · cases hz

/-! ### repr of data -/
theorem reprD_ok (hgu : X.A.guards = some []) (hu : X.A.units + 64 < cLine) {d : D} {v : V} {u : Value} {pins : List (Addr × Obj)} {σ : St} {H : Hp} {s : Shared} {Q : VK} (I : Inv X pins σ H s) (rv : RelV v u) (r : Rp X.K H v d) (hc : PyData.canLay0 d = true) (hs : d.showable = true) (hd : d.depth ≤ 60)
    (hz : d.shown.length ≤ sizeLine) (q : Q (.str d.shown) H) : wpAny (model X.prog X.w) X.A (call (.builtin "repr") [u]) (EP X pins σ Q) X.xe s := by
  obtain ⟨as, rd⟩ := Dp.reads I d v u (r.dp hc) rv
  have nd := PyData.hasDict_of_canLay d hc
  have fin : ∀ (h' : Heap) (u : Tok) (tk : Nat), (∀ b o, s.heap.get? b = some o → h'.get? b = some o) → EP X pins σ Q (.str d.shown u) { s with heap := h', toks := tk } := fun h' u tk hk =>
    ⟨.str d.shown, H, I.kept hk, ⟨u, rfl⟩, q⟩
  have fin0 : EP X pins σ Q (.str d.shown s.toks) { s with toks := s.toks + 1 } := fin s.heap s.toks (s.toks + 1) fun _ _ h => h
  cases d with
  | none =>
    cases r
    have : u = .none := rv
    subst this
    refine PySem.P.repr_of_none ?_
    rw [PyData.shown_none] at fin0
    exact fin0
  | bool b =>
    cases r
    have : u = .bool b := rv
    subst this
    refine PySem.P.repr_of_bool ?_
    rw [PyData.shown_bool] at fin0
    exact fin0
  | int i =>
    cases r
    obtain ⟨t, rfl⟩ : ∃ t, u = .int i t := rv
    refine PySem.P.repr_of_int (by simpa [PyData.showable] using hs) ?_
    rw [PyData.shown_int] at fin0
    exact fin0
  | str x =>
    cases r
    obtain ⟨t, rfl⟩ : ∃ t, u = .str x t := rv
    rw [PyData.shown_str] at fin0 hz
    exact PySem.P.repr_of_str fin0 hz
  | list ds =>
    cases r with
    | lst h1 h2 =>
      have : u = .ref _ := rv
      subst this
      exact PySem.repr_of_reads' rd hs (PyData.noDict_hsm nd) hgu (by omega) (fun _ _ h => h) fin hz
  | tuple ds =>
    cases r with
    | tup h1 h2 =>
      have : u = .ref _ := rv
      subst this
      exact PySem.repr_of_reads' rd hs (PyData.noDict_hsm nd) hgu (by omega) (fun _ _ h => h) fin hz
  | dict kvs => simp [PyData.canLay0] at hc
def gRepr : D → Option D := fun d => if PyData.canLay0 d = true ∧ d.showable = true ∧ d.depth ≤ 60 ∧ d.shown.length ≤ sizeLine then some (.str d.shown) else none
theorem ev_repr (hgu : X.A.guards = some []) (hu : X.A.units + 64 < cLine) (hm : X.mg "repr" = none) (ha : EB X W e fa) (hG : Gl X "repr" := by rfl) (he : starEach (e :: []) X.env = (false, eval e X.env) :: starEach [] X.env := by rfl) :
    EV X W (.Call (.Name "repr" p) [e] [] pos) (f1 gRepr fa) := by
  refine ev_cb (id := "repr") (g := gRepr) (r := fun vs H Q => ∃ v d, vs = [v] ∧ Rp X.K H v d ∧ PyData.canLay0 d = true ∧ d.showable = true ∧ d.depth ≤ 60 ∧ d.shown.length ≤ sizeLine ∧ Q (.str d.shown) H) ?_ ?_ hm ha (by decide +kernel) hG (by decide) (by decide) he
  · intro pins s σ H xs us Q I rx q
    obtain ⟨v, d, rfl, r, h1, h2, h3, h4, q⟩ := q
    cases rx with
    | cons rv rr =>
      cases rr
      exact reprD_ok hgu hu I rv r h1 h2 h3 h4 q
  · intro F H v d z Q l r h q
    unfold gRepr at h
    split at h
    · rename_i hc
      cases h
      exact ⟨v, _, rfl, r, hc.1, hc.2.1, hc.2.2.1, hc.2.2.2, q _ F H (Gr.refl l) (.str _)⟩
    · cases h
end
end DL
set_option Elab.async false
set_option linter.all false
set_option maxRecDepth 100000
set_option maxHeartbeats 4000000
namespace DL
open PySem PySem.Spec PyProof.Rows L2

/-! ### paths into what a slot owns -/
def lookM : List (Key × M) → Key → Option M
  | [], _ => none
  | (k, m) :: r, j => if k = j then some m else lookM r j
def setK : List (Key × M) → Key → M → List (Key × M)
  | [], _, _ => []
  | (k, m) :: r, j, n => if k = j then (k, n) :: r else (k, m) :: setK r j n
def getM : List Key → M → Option M
  | [], m => some m
  | k :: p, .dct kvs => (lookM kvs k).bind (getM p)
  | _ :: _, _ => none
def putAt : List Key → M → M → M
  | [], _, n => n
  | k :: p, .dct kvs, n => match lookM kvs k with
    | some m => .dct (setK kvs k (putAt p m n))
    | none => .dct kvs
  | _ :: _, m, _ => m
def valAt (H : Hp) : List Key → V → Option V
  | [], v => some v
  | k :: p, .ref a => match H a with
    | some (.dK kvs) => (valV kvs k).bind (valAt H p)
    | _ => none
  | _ :: _, _ => none
theorem setK_keys : ∀ (ms : List (Key × M)) (k : Key) (n : M), (setK ms k n).map (·.1) = ms.map (·.1)
  | [], _, _ => rfl
  | (j, m) :: r, k, n => by
    unfold setK
    split
    · rfl
    · rw [List.map_cons, List.map_cons, setK_keys r k n]
section
variable {K : PySem.W.Frag} {F H : Hp}
theorem RpMk.keys : ∀ {kvs : List (Key × V)} {ms : List (Key × M)} {f : List Addr}, RpMk K F H kvs ms f → kvs.map (·.1) = ms.map (·.1)
  | _, _, _, .nil => rfl
  | _, _, _, .cons _ h => by rw [List.map_cons, List.map_cons, RpMk.keys h]
/-- one entry held apart -/
theorem RpMk.focus : ∀ {kvs : List (Key × V)} {ms : List (Key × M)} {f : List Addr} {k : Key} {m : M}, RpMk K F H kvs ms f → lookM ms k = some m →
    ∃ v pre fq post, valV kvs k = some v ∧ f = pre ++ fq ++ post ∧ RpM K F H v m fq ∧
      (∀ F' H' m' fq', Le F F' → (∀ a ∈ pre ++ post, ∀ o, H a = some o → H' a = some o) → RpM K F' H' v m' fq' → RpMk K F' H' kvs (setK ms k m') (pre ++ fq' ++ post)) ∧
      (∀ F' H' v' m' fq', Le F F' → (∀ a ∈ pre ++ post, ∀ o, H a = some o → H' a = some o) → (ms.map (·.1)).Nodup → RpM K F' H' v' m' fq' → RpMk K F' H' (putK kvs k v') (setK ms k m') (pre ++ fq' ++ post))
  | _, _, _, _, _, .nil, e => by simp [lookM] at e
  | _, _, _, k, m, .cons (k := j) (v := v0) (kvs := kvs) (m := m0) (ms := ms) (f1 := f1) (f2 := f2) h hs, e => by
    unfold lookM at e
    by_cases hj : j = k
    · rw [if_pos hj] at e
      cases e
      refine ⟨v0, [], f1, f2, valV_pos hj, rfl, h, ?_, ?_⟩
      · intro F' H' m' fq' l fr r
        unfold setK
        rw [if_pos hj]
        exact .cons r (hs.mono l fun a ha => fr a (by simpa using ha))
      · intro F' H' v' m' fq' l fr nd r
        subst hj
        unfold setK
        rw [if_pos rfl]
        have hz : putK ((j, v0) :: kvs) j v' = (j, v') :: kvs := by
          unfold putK
          rw [if_pos (by simp), List.map_cons, if_pos rfl]
          congr 1
          have nd1 := (List.nodup_cons.mp nd).1
          have : ∀ p ∈ kvs, (if p.1 = j then (p.1, v') else p) = p := fun p hp => by
            rw [if_neg]
            intro z
            refine nd1 ?_
            have h2 := List.mem_map_of_mem (f := fun q : Key × V => q.1) hp
            rw [hs.keys, z] at h2
            exact h2
          exact (List.map_congr_left this).trans (List.map_id _)
        rw [hz]
        exact .cons r (hs.mono l fun a ha => fr a (by simpa using ha))
    · rw [if_neg hj] at e
      obtain ⟨v, pre, fq, post, h1, h2, h3, h4, h5⟩ := RpMk.focus hs e
      refine ⟨v, f1 ++ pre, fq, post, (valV_neg hj).trans h1, by rw [h2]; simp, h3, ?_, ?_⟩
      · intro F' H' m' fq' l fr r
        unfold setK
        rw [if_neg hj]
        have z := h4 F' H' m' fq' l (fun a ha => fr a (by
          rcases List.mem_append.mp ha with q | q
          · exact List.mem_append_left _ (List.mem_append_right _ q)
          · exact List.mem_append_right _ q)) r
        have y := RpMk.cons (k := j) (h.mono l fun a ha => fr a (List.mem_append_left _ (List.mem_append_left _ ha))) z
        simpa using y
      · intro F' H' v' m' fq' l fr nd r
        unfold setK
        rw [if_neg hj]
        have z := h5 F' H' v' m' fq' l (fun a ha => fr a (by
          rcases List.mem_append.mp ha with q | q
          · exact List.mem_append_left _ (List.mem_append_right _ q)
          · exact List.mem_append_right _ q)) (List.nodup_cons.mp nd).2 r
        have y := RpMk.cons (k := j) (h.mono l fun a ha => fr a (List.mem_append_left _ (List.mem_append_left _ ha))) z
        have hz : putK ((j, v0) :: kvs) k v' = (j, v0) :: putK kvs k v' := by
          unfold putK
          rw [List.any_cons, decide_eq_false hj, Bool.false_or, List.map_cons, if_neg hj]
          split <;> rfl
        rw [hz]
        simpa using y
/-- what lies at the path held apart -/
theorem RpM.focus : ∀ {p : List Key} {v : V} {m m1 : M} {f : List Addr}, RpM K F H v m f → getM p m = some m1 →
    ∃ v1 pre fq post, valAt H p v = some v1 ∧ f = pre ++ fq ++ post ∧ RpM K F H v1 m1 fq ∧
      ∀ F' H' m' fq', Le F F' → (∀ a ∈ pre ++ post, ∀ o, H a = some o → H' a = some o) → RpM K F' H' v1 m' fq' → RpM K F' H' v (putAt p m m') (pre ++ fq' ++ post)
  | [], v, m, m1, f, h, e => by
    cases e
    exact ⟨v, [], f, [], rfl, by simp, h, fun F' H' m' fq' l fr r => by simpa [putAt] using r⟩
  | k :: p, v, .dct ms, m1, f, h, e => by
    cases h with
    | dct ha nd hs =>
      rename_i a kvs fp
      unfold getM at e
      obtain ⟨m0, e0, e1⟩ := Option.bind_eq_some_iff.mp e
      obtain ⟨v0, pre, fq, post, h1, h2, h3, h4, _⟩ := hs.focus e0
      obtain ⟨v1, pre1, fq1, post1, g1, g2, g3, g4⟩ := RpM.focus h3 e1
      refine ⟨v1, a :: pre ++ pre1, fq1, post1 ++ post, ?_, by rw [h2, g2]; simp, g3, ?_⟩
      · unfold valAt
        rw [ha]
        dsimp only
        rw [h1]
        exact g1
      · intro F' H' m' fq' l fr r
        unfold putAt
        rw [e0]
        dsimp only
        have z1 := g4 F' H' m' fq' l (fun b hb => fr b (by simp at hb ⊢; rcases hb with q | q <;> simp [q])) r
        have z2 := h4 F' H' _ _ l (fun b hb => fr b (by simp at hb ⊢; rcases hb with q | q <;> simp [q])) z1
        have y := RpM.dct (fr a (by simp) _ ha) (by rw [setK_keys]; exact nd) z2
        simpa using y
  | k :: p, v, .d x, m1, f, h, e => by simp [getM] at e
  | k :: p, v, .lst x, m1, f, h, e => by simp [getM] at e
/-- the slots, what lies at a slot's path held apart -/
theorem RpE.focus : ∀ {env : Env} {σ : St} {f : List Addr} {i : Nat} {p : List Key} {m m1 : M}, RpE K F H env σ f → slot env i = some m → getM p m = some m1 →
    ∃ v v1 pre fq post, σ[i]? = some (some v) ∧ valAt H p v = some v1 ∧ f = pre ++ fq ++ post ∧ RpM K F H v1 m1 fq ∧
      ∀ F' H' m' fq', Le F F' → (∀ a ∈ pre ++ post, ∀ o, H a = some o → H' a = some o) → RpM K F' H' v1 m' fq' → RpE K F' H' (env.set i (some (putAt p m m'))) σ (pre ++ fq' ++ post)
  | _, _, _, _, _, _, _, .nil, e, _ => by simp [slot] at e
  | _, _, _, 0, _, _, _, .non h, e, _ => by simp [slot] at e
  | _, _, _, i + 1, p, m, m1, .non h, e, g => by
    obtain ⟨v, v1, pre, fq, post, h1, h2, h3, h4, h5⟩ := RpE.focus (i := i) h (by simpa [slot] using e) g
    exact ⟨v, v1, pre, fq, post, by simpa using h1, h2, h3, h4, fun F' H' m' fq' l fr r => .non (h5 F' H' m' fq' l fr r)⟩
  | _, _, _, 0, p, m, m1, .som (f1 := f1) (f2 := f2) hm hs, e, g => by
    simp [slot] at e
    subst e
    obtain ⟨v1, pre, fq, post, h2, h3, h4, h5⟩ := RpM.focus hm g
    refine ⟨_, v1, pre, fq, post ++ f2, rfl, h2, by rw [h3]; simp, h4, fun F' H' m' fq' l fr r => ?_⟩
    have z := h5 F' H' m' fq' l (fun b hb => fr b (by simp at hb ⊢; rcases hb with q | q <;> simp [q])) r
    have y := RpE.som z (hs.mono l fun b hb => fr b (by simp [hb]))
    simpa using y
  | _, _, _, i + 1, p, m, m1, .som (f1 := f1) (f2 := f2) hm hs, e, g => by
    obtain ⟨v, v1, pre, fq, post, h1, h2, h3, h4, h5⟩ := RpE.focus (i := i) hs (by simpa [slot] using e) g
    refine ⟨v, v1, f1 ++ pre, fq, post, by simpa using h1, h2, by rw [h3]; simp, h4, fun F' H' m' fq' l fr r => ?_⟩
    have z := h5 F' H' m' fq' l (fun b hb => fr b (by simp at hb ⊢; rcases hb with q | q <;> simp [q])) r
    have y := RpE.som (hm.mono l fun b hb => fr b (by simp [hb])) z
    simpa using y
end
theorem valAt_snoc {H : Hp} {k : Key} : ∀ {p : List Key} {v v1 : V}, valAt H (p ++ [k]) v = some v1 → ∃ a kvs, valAt H p v = some (.ref a) ∧ H a = some (.dK kvs) ∧ valV kvs k = some v1
  | [], v, v1, h => by
    rw [List.nil_append] at h
    unfold valAt at h
    split at h
    · rename_i heq
      cases heq
    · rename_i heq
      cases heq
      rename_i a
      split at h
      · rename_i kvs e
        obtain ⟨y, e1, e2⟩ := Option.bind_eq_some_iff.mp h
        cases e2
        exact ⟨a, kvs, rfl, e, e1⟩
      · cases h
    · cases h
  | j :: p, v, v1, h => by
    rw [List.cons_append] at h
    unfold valAt at h ⊢
    split at h
    · rename_i heq
      cases heq
    · rename_i heq
      cases heq
      split at h
      · rename_i kvs e
        obtain ⟨y, e1, e2⟩ := Option.bind_eq_some_iff.mp h
        obtain ⟨a, kvs2, g1, g2, g3⟩ := valAt_snoc e2
        exact ⟨a, kvs2, by rw [e1]; exact g1, g2, g3⟩
      · cases h
    · cases h
/-! ### an expression that names a path -/
def EPth (X : Cx) (e : Expr) (i : Nat) (p : List Key) : Prop := ∃ t : TE, PE X e t ∧ ∀ (σ : St) (H : Hp) (Q : VK) (v v1 : V), σ[i]? = some (some v) → valAt H p v = some v1 → Q v1 H → t σ H Q
section
variable {X : Cx} {W : WX} {pos : Pos} {a b o e : Expr} {fa fb fo : Env → R D} {apos cpos pp : Pos} {i : Nat} {p : List Key}
theorem ep_var {x : Str} (h : PE X (.Name x pos) (tVar i)) : EPth X (.Name x pos) i [] := ⟨_, h, fun σ H Q v v1 h1 h2 q => by
  cases h2
  exact ⟨v, h1, q⟩⟩
theorem ep_key {k : Key} (hu : X.A.units + 64 < cLine) (h : EPth X o i p) (hk : PE X e (tC (kV k))) (hs : NoSl e := by intro _ _; rfl) : EPth X (.Subscript o e pos) i (p ++ [k]) := by
  obtain ⟨t, pe, kk⟩ := h
  refine ⟨_, pe_dget (by omega) pe hk hs, fun σ H Q v v1 h1 h2 q => ?_⟩
  obtain ⟨a, kvs, g1, g2, g3⟩ := valAt_snoc h2
  refine kk σ H _ v (.ref a) h1 g1 ?_
  exact ⟨a, v1, rfl, by rw [← g3]; exact DGet.k g2, q⟩
def atP (env : Env) (i : Nat) (p : List Key) : Option M := (slot env i).bind (getM p)
def fPthD (i : Nat) (p : List Key) : Env → R D := fun env => match atP env i p with
  | some (.d x) => .ok x env
  | _ => .stuck
def fPthB (i : Nat) (p : List Key) : Env → R D := fun env => match atP env i p with
  | some m => .ok (frz m) env
  | none => .stuck
theorem ev_path (h : EPth X e i p) : EV X W e (fPthD i p) := by
  obtain ⟨t, pe, k⟩ := h
  refine ⟨t, pe, fun env σ F H fp Q w re q => ?_⟩
  unfold fPthD at q
  split at q
  · rename_i x hx
    obtain ⟨m, h1, h2⟩ := Option.bind_eq_some_iff.mp hx
    obtain ⟨v, v1, pre, fq, post, g1, g2, g3, g4, _⟩ := re.focus h1 h2
    cases g4 with
    | d r => exact k σ H Q v v1 g1 g2 (q v1 F H [] fp (Ev.refl _ _ _) w re ⟨rfl, r⟩)
  · exact False.elim q
theorem eb_path (h : EPth X e i p) : EB X W e (fPthB i p) := by
  obtain ⟨t, pe, k⟩ := h
  refine ⟨t, pe, fun env σ F H fp Q w re q => ?_⟩
  unfold fPthB at q
  split at q
  · rename_i x hx
    obtain ⟨m, h1, h2⟩ := Option.bind_eq_some_iff.mp hx
    obtain ⟨v, v1, pre, fq, post, g1, g2, g3, g4, _⟩ := re.focus h1 h2
    exact k σ H Q v v1 g1 g2 (q v1 F H [] fp (Ev.refl _ _ _) w re ⟨rfl, g4.bor w.le⟩)
  · exact False.elim q
/-- a local handed on: its slot is empty behind it -/
def fMove (i : Nat) : Env → R M := fun env => match slot env i with
  | some m => .ok m (env.set i none)
  | none => .stuck
theorem em_move {x : Str} (h : PE X (.Name x pos) (tVar i)) : EM X W (.Name x pos) (fMove i) := by
  refine ⟨_, h, fun env σ F H fp Q w re q => ?_⟩
  unfold fMove at q
  split at q
  · rename_i m hm
    obtain ⟨v, fq, fr, h1, h2, h3, h4⟩ := re.take hm
    exact ⟨v, h1, q v F H fq fr (Ev.sub fun a ha => h4.mem_iff.mp ha) (w.perm h4) h3 h2⟩
  · exact False.elim q
/-- the first thing of the list at the path, taken out of it -/
def fPop0 (i : Nat) (p : List Key) : Env → R M := fun env => match slot env i with
  | some m => match getM p m with
    | some (.lst (m0 :: r)) => .ok m0 (env.set i (some (putAt p m (.lst r))))
    | _ => .stuck
  | none => .stuck
theorem em_pop0 (h : EPth X o i p) (hz : PE X e (tC (.int 0))) (hbase : attributeBase o "pop" X.env (eval o X.env) = eval o X.env := by rfl)
    (hfew : ((backTo cpos (starEach [e] X.env)).all (fun x => !x.1) && (backToKw cpos (keywordEach [] X.env)).all (fun x => x.1.isSome)
      && decide ([e].length + ([] : List Keyword).length + (if ([] : List Keyword).isEmpty then 0 else 1) < 30)) = true := by rfl)
    (hline : (apos.endLine == cpos.line) = true := by rfl) (hs : starEach [e] X.env = (false, eval e X.env) :: starEach [] X.env := by rfl) (hplain : (backTo cpos (starEach [] X.env)).any (·.1) = false := by rfl) :
    EM X W (.Call (.Attribute o "pop" apos) [e] [] cpos) (fPop0 i p) := by
  obtain ⟨t, pe, k⟩ := h
  refine ⟨_, pe_bm PySem.F.plainAttrs_list PySem.F.slot_list_pop PySem.F.type_list_pop mt_popAt pe (pa_cons hz pa_nil hs) hbase hfew hline hs hplain, fun env σ F H fp Q w re q => ?_⟩
  unfold fPop0 at q
  split at q
  · rename_i m hm
    split at q
    · rename_i m0 r hx
      obtain ⟨v, v1, pre, fq, post, g1, g2, g3, g4, g5⟩ := re.focus hm hx
      subst g3
      cases g4 with
      | lst ha hs2 =>
        rename_i l vs fl
        cases hs2 with
        | cons hv hvs =>
          rename_i v0 vs0 f1 f2
          have il : l ∈ pre ++ (l :: (f1 ++ f2)) ++ post := by simp
          have wp := w.put (o := .lst vs0) il
          have nd := w.nd
          have keep : ∀ b ∈ pre ++ (f1 ++ f2) ++ post, ∀ u, H b = some u → upd H l (.lst vs0) b = some u := fun b hb u hu => by
            rw [upd_ne]
            · exact hu
            · rintro rfl
              have h1 := List.nodup_append.mp nd
              have h2 := List.nodup_append.mp h1.1
              have h3 := List.nodup_cons.mp h2.2.1
              simp only [List.mem_append] at hb
              rcases hb with (z | z) | z
              · exact h2.2.2 b z b List.mem_cons_self rfl
              · exact h3.1 (List.mem_append.mpr z)
              · exact h1.2.2 b (List.mem_append_right _ List.mem_cons_self) b z rfl
          have re2 := g5 F (upd H l (.lst vs0)) (.lst r) (l :: f2) (Le.refl _) (fun b hb u hu => keep b (by simp at hb ⊢; rcases hb with q | q <;> simp [q]) u hu)
            (.lst upd_same (hvs.mono (Le.refl _) fun b hb u hu => keep b (by simp [hb]) u hu))
          have rv := hv.mono (Le.refl F) (H' := upd H l (.lst vs0)) fun b hb u hu => keep b (by simp [hb]) u hu
          refine k σ H _ v (.ref l) g1 g2 ⟨.inl ⟨rfl, _, .inl (.inl ha)⟩, ?_⟩
          refine ⟨l, v0 :: vs0, 0, 0, v0, rfl, rfl, ha, by decide, by decide, ?_, rfl, ?_⟩
          · unfold seqIndex?
            simp
          · show Q v0 (upd H l (.lst vs0))
            have pm : (f1 ++ (pre ++ (l :: f2) ++ post)).Perm (pre ++ (l :: (f1 ++ f2)) ++ post) := by
              rw [← List.append_assoc, ← List.append_assoc]
              refine List.Perm.append_right post ?_
              refine (List.Perm.append_right (l :: f2) (List.perm_append_comm (l₁ := f1) (l₂ := pre))).trans ?_
              rw [List.append_assoc]
              refine List.Perm.append_left pre ?_
              exact List.perm_middle
            exact q v0 F (upd H l (.lst vs0)) f1 (pre ++ (l :: f2) ++ post) (wp.2.trans (Ev.sub fun b hb => pm.mem_iff.mp hb)) (wp.1.perm pm) re2 rv
    · exact False.elim q
  · exact False.elim q
/-- x.append(e), x a local -/
def fAppend (i : Nat) (fa : Env → R M) : Env → R D := fun env => match slot env i with
  | some (.lst _) => (fa env).bind fun m e1 => match slot e1 i with
    | some (.lst ms) => if ms.length < sizeLine then .ok .none (e1.set i (some (.lst (ms ++ [m])))) else .stuck
    | _ => .stuck
  | _ => .stuck
theorem RpMs.snoc {K : PySem.W.Frag} {F H : Hp} : ∀ {vs : List V} {ms : List M} {f fq : List Addr} {v : V} {m : M}, RpMs K F H vs ms f → RpM K F H v m fq → RpMs K F H (vs ++ [v]) (ms ++ [m]) (f ++ fq)
  | _, _, _, _, _, _, .nil, r => by
    have z := RpMs.cons r .nil
    simpa using z
  | _, _, _, _, _, _, .cons h hs, r => by
    have z := RpMs.cons h (hs.snoc r)
    simpa using z
theorem RpMs.len {K : PySem.W.Frag} {F H : Hp} {vs : List V} {ms : List M} {fp : List Addr} (h : RpMs K F H vs ms fp) : vs.length = ms.length := h.length
theorem ev_append {x : Str} {fm : Env → R M} (h : PE X (.Name x pos) (tVar i)) (ha : EM X W e fm) (hbase : attributeBase (.Name x pos) "append" X.env (eval (.Name x pos) X.env) = eval (.Name x pos) X.env := by rfl)
    (hfew : ((backTo cpos (starEach [e] X.env)).all (fun x => !x.1) && (backToKw cpos (keywordEach [] X.env)).all (fun x => x.1.isSome)
      && decide ([e].length + ([] : List Keyword).length + (if ([] : List Keyword).isEmpty then 0 else 1) < 30)) = true := by rfl)
    (hline : (apos.endLine == cpos.line) = true := by rfl) (hs : starEach [e] X.env = (false, eval e X.env) :: starEach [] X.env := by rfl) (hplain : (backTo cpos (starEach [] X.env)).any (·.1) = false := by rfl) :
    EV X W (.Call (.Attribute (.Name x pos) "append" apos) [e] [] cpos) (fAppend i fm) := by
  obtain ⟨ta, pa, ka⟩ := ha
  refine ⟨_, pe_bm PySem.F.plainAttrs_list PySem.F.slot_list_append PySem.F.type_list_append mt_append h (pa_cons pa pa_nil hs) hbase hfew hline hs hplain, fun env σ F H fp Q w re q => ?_⟩
  unfold fAppend at q
  split at q
  · rename_i ms0 hm0
    obtain ⟨v, fq0, g1, g2, _⟩ := re.get hm0
    cases g2 with
    | lst ha0 hs0 =>
      rename_i l vs0 fl _
      refine ⟨.ref l, g1, .inl ⟨rfl, _, .inl (.inl ha0)⟩, ?_⟩
      refine ka env σ F H fp _ w re (Post.seq (rep1 := repM X.K) q fun m env1 y F1 H1 fq fp1 y1 w1 re1 r1 q1 => ?_)
      split at q1
      · rename_i ms hm
        split at q1
        · rename_i hl
          obtain ⟨v', fs, fr, h1, h2, h3, h4⟩ := re1.take hm
          rw [g1] at h1
          cases h1
          cases h2 with
          | lst hx hsx =>
            rename_i vs fl2
            have il : l ∈ fq ++ fp1 := List.mem_append_right _ (h4.mem_iff.mp (by simp))
            have wp := w1.put (o := .lst (vs ++ [y])) il
            have nd := List.nodup_append.mp w1.nd
            have nd2 := (List.Perm.nodup_iff h4).mpr nd.2.1
            rw [List.cons_append] at nd2
            have nl := (List.nodup_cons.mp nd2).1
            have keep : ∀ b, b ∈ fq ∨ b ∈ fl2 ∨ b ∈ fr → ∀ u, H1 b = some u → upd H1 l (.lst (vs ++ [y])) b = some u := fun b hb u hu => by
              rw [upd_ne]
              · exact hu
              · rintro rfl
                rcases hb with z | z | z
                · exact nd.2.2 b z b (h4.mem_iff.mp (by simp)) rfl
                · exact nl (List.mem_append_left _ z)
                · exact nl (List.mem_append_right _ z)
            have r3 : RpM X.K F1 (upd H1 l (.lst (vs ++ [y]))) (.ref l) (.lst (ms ++ [m])) (l :: (fl2 ++ fq)) :=
              .lst upd_same ((hsx.mono (Le.refl _) fun b hb => keep b (.inr (.inl hb))).snoc (r1.mono (Le.refl _) fun b hb => keep b (.inl hb)))
            have cl : slot (env1.set i none) i = none := slot_set_self (by rw [hm]; simp)
            obtain ⟨fp5, h5, h6⟩ := (h3.mono (Le.refl F1) fun b hb => keep b (.inr (.inr hb))).put cl g1 r3
            have e5 : (env1.set i none).set i (some (.lst (ms ++ [m]))) = env1.set i (some (.lst (ms ++ [m]))) := by rw [List.set_set]
            rw [e5] at h5
            refine ⟨l, vs, y, rfl, rfl, hx, by rw [hsx.length]; exact hl, ?_⟩
            have pm : fp5.Perm (fq ++ fp1) := by
              refine h6.trans ?_
              have z1 : (l :: (fl2 ++ fq) ++ fr).Perm (fq ++ (l :: fl2 ++ fr)) := by
                have : (l :: (fl2 ++ fq) ++ fr) = (l :: fl2) ++ (fq ++ fr) := by simp
                rw [this, ← List.append_assoc, ← List.append_assoc]
                exact List.Perm.append_right fr List.perm_append_comm
              exact z1.trans (List.Perm.append_left fq h4)
            exact q1 .non F1 (upd H1 l (.lst (vs ++ [y]))) [] fp5 (wp.2.trans (Ev.sub fun b hb => pm.mem_iff.mp hb)) (wp.1.perm pm) h5 ⟨rfl, .non⟩
        · exact False.elim q1
      · exact False.elim q1
  · exact False.elim q
/-- d[k] = e: d at a path, k a literal key that it has -/
def fPutK (i : Nat) (p : List Key) (k : Key) (fa : Env → R M) : Env → R Fl := fun env => (fa env).bind fun n e1 => match slot e1 i with
  | some m => match getM p m with
    | some (.dct kvs) => if (lookM kvs k).isSome = true ∧ kvs.length < sizeLine then .ok .nx (e1.set i (some (putAt p m (.dct (setK kvs k n))))) else .stuck
    | _ => .stuck
  | none => .stuck
theorem ds_putK {k : Key} {fm : Env → R M} {value : Expr} {pos' : Pos} (hu : X.A.units + 64 < cLine) (h : EPth X o i p) (hk : PE X e (tC (kV k))) (hv : EM X W value fm) (hsw : swapsWith value (some (.Subscript o e pos')) pos.line X.env = pure false := by rfl) :
    DS X W (.Assign [.Subscript o e pos'] value pos) [] (fPutK i p k fm) := by
  obtain ⟨tp, pp, kp⟩ := h
  obtain ⟨tv, pv, kv⟩ := hv
  refine ⟨_, ps_dput (by omega) pp hk pv hsw, fun env σ F H fp D w re q => ?_⟩
  refine kv env σ F H fp _ w re (PostS.seqE (rep1 := repM X.K) q fun n env1 y F1 H1 fq fp1 y1 w1 re1 r1 q1 => ?_)
  split at q1
  · rename_i m hm
    split at q1
    · rename_i kvs hx
      split at q1
      · rename_i hc
        obtain ⟨v, v1, pre, fs, post, g1, g2, g3, g4, g5⟩ := re1.focus hm hx
        subst g3
        cases g4 with
        | dct ha nd0 hs2 =>
          rename_i l kvs0 fl
          obtain ⟨m0, hm0⟩ := Option.isSome_iff_exists.mp hc.1
          obtain ⟨v0, pre0, fq0, post0, e1, e2, e3, _, e5⟩ := hs2.focus hm0
          subst e2
          have il : l ∈ fq ++ (pre ++ (l :: (pre0 ++ fq0 ++ post0)) ++ post) := by simp
          have wp := w1.put (o := .dK (putK kvs0 k y)) il
          have nd := w1.nd
          have off : ∀ b, (b ∈ fq ∨ b ∈ pre ∨ b ∈ pre0 ∨ b ∈ post0 ∨ b ∈ post) → b ≠ l := by
            rintro b hb rfl
            have h1 := List.nodup_append.mp nd
            have h2 := List.nodup_append.mp h1.2.1
            have h3 := List.nodup_append.mp h2.1
            have h4 := List.nodup_cons.mp h3.2.1
            rcases hb with z | z | z | z | z
            · exact h1.2.2 b z b (by simp) rfl
            · exact h3.2.2 b z b List.mem_cons_self rfl
            · exact h4.1 (by simp [z])
            · exact h4.1 (by simp [z])
            · exact h2.2.2 b (by simp) b z rfl
          have keep : ∀ b, (b ∈ fq ∨ b ∈ pre ∨ b ∈ pre0 ∨ b ∈ post0 ∨ b ∈ post) → ∀ u, H1 b = some u → upd H1 l (.dK (putK kvs0 k y)) b = some u := fun b hb u hu => by
            rw [upd_ne (off b hb)]
            exact hu
          have z5 := e5 F1 (upd H1 l (.dK (putK kvs0 k y))) y n fq (Le.refl _) (fun b hb => keep b (by simp at hb; rcases hb with q | q <;> simp [q])) nd0 (r1.mono (Le.refl _) fun b hb => keep b (.inl hb))
          have z6 := RpM.dct (a := l) upd_same (by rw [setK_keys]; exact nd0) z5
          have re2 := g5 F1 (upd H1 l (.dK (putK kvs0 k y))) _ _ (Le.refl _) (fun b hb => keep b (by simp at hb; rcases hb with q | q <;> simp [q])) z6
          refine kp σ H1 _ v (.ref l) g1 g2 ⟨l, _, rfl, DPut.k ha (by
            have := congrArg List.length hs2.keys
            rw [List.length_map, List.length_map] at this
            rw [this]
            exact hc.2), ?_⟩
          have sb : (pre ++ (l :: (pre0 ++ fq ++ post0)) ++ post).Nodup ∧ ∀ b ∈ (pre ++ (l :: (pre0 ++ fq ++ post0)) ++ post), b ∈ fq ++ (pre ++ (l :: (pre0 ++ fq0 ++ post0)) ++ post) := by
            have sub : (fq ++ (pre ++ (l :: (pre0 ++ post0)) ++ post)).Sublist (fq ++ (pre ++ (l :: (pre0 ++ fq0 ++ post0)) ++ post)) := by
              refine List.Sublist.append_left ?_ fq
              refine List.Sublist.append_right ?_ post
              refine List.Sublist.append_left ?_ pre
              refine List.Sublist.cons_cons l ?_
              refine List.Sublist.append_right ?_ post0
              exact List.sublist_append_left _ _
            have pm : (pre ++ (l :: (pre0 ++ fq ++ post0)) ++ post).Perm (fq ++ (pre ++ (l :: (pre0 ++ post0)) ++ post)) := by
              have a1 : (pre ++ (l :: (pre0 ++ fq ++ post0)) ++ post) = (pre ++ (l :: pre0)) ++ fq ++ (post0 ++ post) := by simp
              have a2 : (fq ++ (pre ++ (l :: (pre0 ++ post0)) ++ post)) = fq ++ (pre ++ (l :: pre0)) ++ (post0 ++ post) := by simp
              rw [a1, a2]
              exact List.Perm.append_right _ List.perm_append_comm
            exact ⟨pm.nodup_iff.mpr (sub.nodup nd), fun b hb => sub.subset (pm.mem_iff.mp hb)⟩
          have w3 : Wd F1 (upd H1 l (.dK (putK kvs0 k y))) (pre ++ (l :: (pre0 ++ fq ++ post0)) ++ post) := ⟨wp.1.le, sb.1, fun b hb => wp.1.off b (sb.2 b hb)⟩
          exact q1 σ F1 (upd H1 l (.dK (putK kvs0 k y))) _ (wp.2.trans (Ev.sub sb.2)) w3 re2 (Agree.refl _ _)
      · exact False.elim q1
    · exact False.elim q1
  · exact False.elim q1
end
end DL
set_option Elab.async false
set_option linter.all false
set_option maxRecDepth 100000
set_option maxHeartbeats 4000000
namespace DL
open PySem PySem.Spec PyProof.Rows L2
/-! ### {k: e, ..} -/
/-- a step of fp with more beside it -/
theorem Wd.beside2 {F H F' H' : Hp} {fr fp fp' : List Addr} (w : Wd F H (fr ++ fp)) (th : ∀ a ∈ fr, ∃ o, H a = some o) (y : Ev F H fp F' H' fp') (w' : Wd F' H' fp') :
    Wd F' H' (fr ++ fp') ∧ Ev F H (fr ++ fp) F' H' (fr ++ fp') ∧ ∀ a ∈ fr, ∀ o, H a = some o → H' a = some o := by
  induction fr generalizing fp fp' with
  | nil => exact ⟨w', y, fun a ha => by cases ha⟩
  | cons b fr ih =>
    have w1 : Wd F H (fr ++ fp) := w.sub (List.sublist_cons_self _ _)
    obtain ⟨z1, z2, z3⟩ := ih w1 (fun a ha => th a (List.mem_cons_of_mem _ ha)) y w'
    obtain ⟨o, ho⟩ := th b List.mem_cons_self
    obtain ⟨y1, y2, y3⟩ := Wd.beside (a := b) w ho z2 z1
    refine ⟨y1, y2, fun a ha u hu => ?_⟩
    rcases List.mem_cons.mp ha with rfl | ha
    · rw [ho] at hu
      cases hu
      exact y3
    · exact z3 a ha u hu
def repP (K : PySem.W.Frag) : Hp → Hp → List (V × V) → List (Key × M) → List Addr → Prop := fun F H ps kms fq => ∃ kvs : List (Key × V), ps = kvs.map (fun kv => (kV kv.1, kv.2)) ∧ RpMk K F H kvs kms fq
def EPs (X : Cx) (W : WX) (pos : Pos) (keys : List (Option Expr)) (values : List Expr) (f : Env → R (List (Key × M))) : Prop :=
  ∃ trs, PPs X pos keys values trs ∧ ∀ env σ F H fp (Q : List (V × V) → Hp → Prop), Wd F H fp → RpE X.K F H env σ fp → Post X W σ F H fp (repP X.K) Q (f env) → tPairs trs σ H Q
def fPs0 : Env → R (List (Key × M)) := fun env => .ok [] env
def fPs (k : Key) (fa : Env → R M) (fr : Env → R (List (Key × M))) : Env → R (List (Key × M)) := fun env => (fa env).bind fun m e1 => (fr e1).bind fun r e2 => .ok ((k, m) :: r) e2
section
variable {X : Cx} {W : WX} {pos : Pos}
theorem eps_nil : EPs X W pos [] [] fPs0 := ⟨[], pps_nil, fun env σ F H fp Q w re q => q [] F H [] fp (Ev.refl _ _ _) w re ⟨[], rfl, .nil⟩⟩
theorem eps_cons {ke ve : Expr} {ks : List (Option Expr)} {vs : List Expr} {k : Key} {fa : Env → R M} {fr : Env → R (List (Key × M))} (hk : PE X ke (tC (kV k))) (ha : EM X W ve fa) (hr : EPs X W pos ks vs fr) :
    EPs X W pos (some ke :: ks) (ve :: vs) (fPs k fa fr) := by
  obtain ⟨ta, pa, ka⟩ := ha
  obtain ⟨trs, ps, kr⟩ := hr
  refine ⟨_, pps_cons hk pa ps, fun env σ F H fp Q w re q => ?_⟩
  refine ka env σ F H fp _ w re (Post.seq (rep1 := repM X.K) q fun m env1 v F1 H1 fq fp1 y1 w1 re1 r1 q1 => ?_)
  have wfp : Wd F1 H1 fp1 := w1.sub (List.sublist_append_right _ _)
  refine kr env1 σ F1 H1 fp1 _ wfp re1 ?_
  cases hf : fr env1 with
  | stuck => rw [hf] at q1; exact q1
  | err x e =>
    rw [hf] at q1
    intro cls dd F2 H2 fp2 y2 w2 re2 rx
    obtain ⟨z1, z2, z3⟩ := Wd.beside2 w1 (fun a ha => r1.there a ha) y2 w2
    have sb : ∀ a ∈ fp2, a ∈ fq ++ fp2 := fun a ha => List.mem_append_right _ ha
    exact q1 cls dd F2 H2 fp2 (z2.trans (Ev.sub sb)) w2 re2 rx
  | ok r e2 =>
    rw [hf] at q1
    intro ps F2 H2 fs fp2 y2 w2 re2 ⟨kvs, e, rk⟩
    obtain ⟨z1, z2, z3⟩ := Wd.beside2 w1 (fun a ha => r1.there a ha) y2 w2
    subst e
    refine q1 ((kV k, v) :: kvs.map (fun kv => (kV kv.1, kv.2))) F2 H2 (fq ++ fs) fp2 ?_ ?_ re2 ⟨(k, v) :: kvs, rfl, .cons (r1.mono y2.frz fun a ha o e => z3 a ha o e) rk⟩
    · rw [List.append_assoc]; exact z2
    · rw [List.append_assoc]; exact z1
theorem mergeK_self : ∀ (more kvs : List (Key × V)), ((kvs ++ more).map (·.1)).Nodup → mergeK kvs more = kvs ++ more
  | [], kvs, _ => by show kvs = kvs ++ []; rw [List.append_nil]
  | p :: r, kvs, nd => by
    show mergeK (putK kvs p.1 p.2) r = _
    have hp : putK kvs p.1 p.2 = kvs ++ [p] := by
      unfold putK
      rw [if_neg]
      intro hc
      obtain ⟨q, h1, h2⟩ := List.any_eq_true.mp hc
      rw [List.map_append, List.map_cons] at nd
      have z := (List.nodup_append.mp nd).2.2 q.1 (List.mem_map_of_mem h1) p.1 List.mem_cons_self
      exact z (of_decide_eq_true h2)
    rw [hp, mergeK_self r (kvs ++ [p]) (by simpa using nd)]
    simp
def fDct (fr : Env → R (List (Key × M))) : Env → R M := fun env => (fr env).bind fun kms e => if (kms.map (·.1)).Nodup ∧ kms.length ≤ 15 then .ok (.dct kms) e else .stuck
theorem em_dct {keys : List (Option Expr)} {values : List Expr} {fr : Env → R (List (Key × M))} (h : EPs X W pos keys values fr) (hall : keys.all (·.isSome) = true := by rfl) (hl : keys.length = values.length := by rfl) (h0 : keys ≠ [] := by simp) (h15 : keys.length ≤ 15 := by decide) :
    EM X W (.Dict keys values pos) (fDct fr) := by
  obtain ⟨trs, ps, kr⟩ := h
  refine ⟨_, pe_disp ps hall hl h0 h15, fun env σ F H fp Q w re q => ?_⟩
  intro p hp
  have th := re.there
  have npf : ∀ a ∈ fp, a ≠ p := fun a ha => by obtain ⟨u, e⟩ := th a ha; exact ne_of_none e hp
  have w1 : Wd F (upd H p (.dK [])) fp := ⟨fun a u e => by rw [upd_ne (ne_of_none (w.le a u e) hp)]; exact w.le a u e, w.nd, w.off⟩
  have y0 : Ev F H fp F (upd H p (.dK [])) fp := ⟨Le.refl _, fun a u e _ => by rw [upd_ne (ne_of_none e hp)]; exact e, fun a ha => .inl ha, fun a u e => .inl e⟩
  have re1 := re.mono (Le.refl F) (H' := upd H p (.dK [])) fun a ha u e => by rw [upd_ne (npf a ha)]; exact e
  refine kr env σ F (upd H p (.dK [])) fp _ w1 re1 ?_
  unfold fDct at q
  cases hf : fr env with
  | stuck => rw [hf] at q; exact q
  | err x e =>
    rw [hf] at q
    intro cls dd F2 H2 fp2 y2 w2 re2 rx
    exact q cls dd F2 H2 fp2 (y0.trans y2) w2 re2 rx
  | ok kms e2 =>
    rw [hf] at q
    intro ps F2 H2 fs fp2 y2 w2 re2 ⟨kvs, e, rk⟩
    have q' : Post X W σ F H fp (repM X.K) Q (if (kms.map (·.1)).Nodup ∧ kms.length ≤ 15 then R.ok (M.dct kms) e2 else .stuck) := q
    split at q'
    · rename_i hc
      have hp2 : H2 p = some (.dK []) := y2.keep p _ upd_same fun z => npf p z rfl
      have np2 : p ∉ fs ++ fp2 := fun z => by
        rcases y2.own p z with g | g
        · exact npf p g rfl
        · rw [upd_same] at g; cases g
      have nF2 : F2 p = none := by
        cases g : F2 p with
        | none => rfl
        | some u =>
          rcases y2.new p u g with g2 | g2 | g2
          · have := w.le p u g2; rw [hp] at this; cases this
          · exact absurd rfl (npf p g2)
          · rw [upd_same] at g2; cases g2
      have hk := rk.keys
      have hm : mergeK [] kvs = kvs := by
        have := mergeK_self kvs [] (by rw [List.nil_append, hk]; exact hc.1)
        simpa using this
      refine ⟨hp2, kvs, e, by have z := congrArg List.length hk; rw [List.length_map, List.length_map] at z; rw [z]; exact hc.2, ?_⟩
      rw [hm]
      have w3 : Wd F2 (upd H2 p (.dK kvs)) (p :: (fs ++ fp2)) := ⟨fun a u g => by
        rw [upd_ne (fun z => by rw [z, nF2] at g; cases g)]; exact w2.le a u g, List.nodup_cons.mpr ⟨np2, w2.nd⟩, fun a ha => by
        rcases List.mem_cons.mp ha with rfl | ha
        · exact nF2
        · exact w2.off a ha⟩
      have keep : ∀ a ∈ fs ++ fp2, ∀ u, H2 a = some u → upd H2 p (.dK kvs) a = some u := fun a ha u g => by
        rw [upd_ne (fun z => np2 (by rw [← z]; exact ha))]; exact g
      have y4 : Ev F H fp F2 (upd H2 p (.dK kvs)) (p :: (fs ++ fp2)) := by
        have y3 := y0.trans y2
        refine ⟨y3.frz, fun a u g hn => ?_, fun a ha => ?_, y3.new⟩
        · rw [upd_ne (ne_of_none g hp)]; exact y3.keep a u g hn
        · rcases List.mem_cons.mp ha with rfl | ha
          · exact .inr hp
          · exact y3.own a ha
      exact q' (.ref p) F2 (upd H2 p (.dK kvs)) (p :: fs) fp2 y4 w3 (re2.mono (Le.refl _) fun a ha => keep a (List.mem_append_right _ ha))
        (.dct upd_same hc.1 (rk.mono (Le.refl _) fun a ha => keep a (List.mem_append_left _ ha)))
    · exact False.elim q'

/-! ### and, or, not as values; any value as a test -/
variable {a b e : Expr} {fa fb : Env → R D} {rest : List Expr}
def fAndV (fa fb : Env → R D) : Env → R D := fun env => (fa env).bind fun d e => match d with
  | .bool true => fb e
  | .bool false => .ok (.bool false) e
  | _ => .stuck
def fOrV (fa fb : Env → R D) : Env → R D := fun env => (fa env).bind fun d e => match d with
  | .bool true => .ok (.bool true) e
  | .bool false => fb e
  | _ => .stuck
theorem ev_one1 {op : BoolOp} (h : EV X W a fa) : EV X W (.BoolOp op [a] pos) fa := by
  obtain ⟨t, p, k⟩ := h
  exact ⟨t, pe_one p, k⟩
theorem ev_and (ha : EV X W a fa) (hb : EV X W (.BoolOp .And (b :: rest) pos) fb) : EV X W (.BoolOp .And (a :: b :: rest) pos) (fAndV fa fb) := by
  obtain ⟨ta, pa, ka⟩ := ha
  obtain ⟨tb, pb, kb⟩ := hb
  refine ⟨_, pe_and pa pb, fun env σ F H fp Q w re q => ka env σ F H fp _ w re (Post.seq (rep1 := repV X.K) q fun d env1 v F1 H1 fq fp1 y w1 re1 r1 q1 => ?_)⟩
  obtain ⟨rfl, r1⟩ := r1
  cases d with
  | bool c =>
    cases r1
    cases c with
    | true => exact ⟨true, rfl, kb env1 σ F1 H1 fp1 Q w1 re1 q1⟩
    | false => exact ⟨false, rfl, q1 (.bl false) F1 H1 [] fp1 (Ev.refl _ _ _) w1 re1 ⟨rfl, .bl _⟩⟩
  | _ => exact False.elim q1
theorem ev_or (ha : EV X W a fa) (hb : EV X W (.BoolOp .Or (b :: rest) pos) fb) : EV X W (.BoolOp .Or (a :: b :: rest) pos) (fOrV fa fb) := by
  obtain ⟨ta, pa, ka⟩ := ha
  obtain ⟨tb, pb, kb⟩ := hb
  refine ⟨_, pe_or pa pb, fun env σ F H fp Q w re q => ka env σ F H fp _ w re (Post.seq (rep1 := repV X.K) q fun d env1 v F1 H1 fq fp1 y w1 re1 r1 q1 => ?_)⟩
  obtain ⟨rfl, r1⟩ := r1
  cases d with
  | bool c =>
    cases r1
    cases c with
    | false => exact ⟨false, rfl, kb env1 σ F1 H1 fp1 Q w1 re1 q1⟩
    | true => exact ⟨true, rfl, q1 (.bl true) F1 H1 [] fp1 (Ev.refl _ _ _) w1 re1 ⟨rfl, .bl _⟩⟩
  | _ => exact False.elim q1
def gNotV : D → Option D
  | .bool c => some (.bool (!c))
  | _ => none
theorem ev_not (ha : EV X W a fa) : EV X W (.UnaryOp .Not a pos) (f1 gNotV fa) := by
  obtain ⟨ta, pa, ka⟩ := ha
  refine ⟨_, pe_not pa, fun env σ F H fp Q w re q => ka env σ F H fp _ w re (Post.seq (rep1 := repV X.K) q fun d env1 v F1 H1 fq fp1 y w1 re1 r1 q1 => ?_)⟩
  obtain ⟨rfl, r1⟩ := r1
  obtain ⟨z, hz, q2⟩ := q1.of
  cases d with
  | bool c =>
    cases hz
    cases r1
    exact ⟨c, rfl, q2 (.bl (!c)) F1 H1 [] fp1 (Ev.refl _ _ _) w1 re1 ⟨rfl, .bl _⟩⟩
  | _ => cases hz
end
end DL
set_option Elab.async false
set_option linter.all false
set_option maxRecDepth 100000
set_option maxHeartbeats 4000000
namespace DL
open PySem PySem.Spec PyProof.Rows L2
section
variable {X : Cx} {W : WX} {pos : Pos} {a b e : Expr} {fa fb : Env → R D}
/-- what a block of a comprehension lets out: nothing -/
theorem takes_WF : Takes X WF := fun u s' x => by
  unfold XE at x
  rcases x with ⟨_, _, _, _, _, _, _, _, _, _, _, _, _, z⟩
  exact False.elim z.2.2.2
/-- read as it lies, against a new empty list -/
def fNil2 (g : D → D → Option D) (fa : Env → R D) : Env → R D := fun env => (fa env).bind fun d e => .of (g d (.list [])) e
theorem post_nil {r : R2} {g : D → D → Option D} (ho : OpB X.K r g) {d : D} {x z : D} {y : V} {env : Env} {σ : St} {F H : Hp} {fp : List Addr} {Q : VK} {α : Type} {β : Type} (hb : ∀ u, ∃ c, g u (.list []) = none ∨ g u (.list []) = some (.bool c)) (w : Wd F H fp) (re : RpE X.K F H env σ fp) (ry : Rp X.K H y x) (hz : g x (.list []) = some z)
    (q : Post X W σ F H fp (repV X.K) Q (.ok z env)) (p : Addr) (hp : H p = none) : r y (.ref p) (upd H p (.lst [])) Q := by
  have g1 : Gr F H F (upd H p (.lst [])) := Gr.drop w.le hp
  have rl : Rp X.K (upd H p (.lst [])) (.ref p) (.list []) := .lst (.inl (.inl upd_same)) .nil
  obtain ⟨c, hc⟩ := hb x
  rcases hc with hc | hc
  · rw [hc] at hz; cases hz
  · rw [hc] at hz
    cases hz
    refine ho _ (upd H p (.lst [])) y (.ref p) x (.list []) (.bool c) Q (Le.refl _) (ry.mono g1.l2) rl hc fun v F' H' gr r' => ?_
    cases r'
    exact q.gr w re (g1.trans ⟨Le.refl _, gr.l2, g1.l3.trans gr.l2, fun _ _ e => .inl e⟩) ⟨rfl, .bl _⟩
theorem gEq_bool (u v : D) : ∃ c, gEq u v = none ∨ gEq u v = some (.bool c) := by
  unfold gEq
  cases eqD u v with
  | none => exact ⟨true, .inl rfl⟩
  | some c => exact ⟨c, .inr rfl⟩
theorem gNe_bool (u v : D) : ∃ c, gNe u v = none ∨ gNe u v = some (.bool c) := by
  unfold gNe
  cases eqD u v with
  | none => exact ⟨true, .inl rfl⟩
  | some c => exact ⟨!c, .inr rfl⟩
theorem ev_neNil (hu : X.A.units + 64 < cLine) {p2 : Pos} (ha : EB X W a fa) (hm : behindInMarks .NotEq (.List [] p2) = false := by first | exact nomark _ | rfl) : EV X W (.Compare a [.NotEq] [.List [] p2] pos) (fNil2 gNe fa) := by
  obtain ⟨t, p, k⟩ := ha
  refine ⟨_, pe_cmpR (op_neAll hu) p (pe_lst pa_nil) hm, fun env σ F H fp Q w re q => ?_⟩
  refine k env σ F H fp _ w re (Post.seq (rep1 := repB X.K) q fun d env1 y F1 H1 fq fp1 y1 w1 re1 r1 q1 => ?_)
  obtain ⟨rfl, r1⟩ := r1
  obtain ⟨z, hz, q2⟩ := q1.of
  exact ⟨Nat.zero_le _, fun p hp => post_nil (d := d) (α := D) (β := V) ob_ne (fun u => gNe_bool u _) w1 re1 r1 hz q2 p hp⟩
theorem et_neNil (hu : X.A.units + 64 < cLine) {p2 : Pos} (ha : EB X W a fa) (hm : behindInMarks .NotEq (.List [] p2) = false := by first | exact nomark _ | rfl) : ET X W (.Compare a [.NotEq] [.List [] p2] pos) (fB (fNil2 gNe fa)) := by
  obtain ⟨t, p, k⟩ := ha
  refine ⟨_, pt_cmpR (op_neAll hu) p (pe_lst pa_nil) hm, fun env σ F H fp Q w re q => ?_⟩
  have q := post_bool q
  refine k env σ F H fp _ w re (Post.seq (rep1 := repB X.K) q fun d env1 y F1 H1 fq fp1 y1 w1 re1 r1 q1 => ?_)
  obtain ⟨rfl, r1⟩ := r1
  obtain ⟨z, hz, q2⟩ := q1.of
  have q3 : Post X W σ F1 H1 ([] ++ fp1) (repV X.K) (fun x H1 => ∃ c, x = .bl c ∧ Q c H1) (.ok z env1) := by
    obtain ⟨c, hc⟩ := gNe_bool d (.list [])
    rcases hc with hc | hc
    · rw [hc] at hz; cases hz
    · rw [hc] at hz
      cases hz
      intro v F' H' fq fp' y2 w2 re2 r2
      obtain ⟨rfl, r2⟩ := r2
      exact q2 v F' H' [] fp' y2 w2 re2 ⟨rfl, r2.mono w2.le⟩
  exact ⟨Nat.zero_le _, fun p hp => post_nil (d := d) (α := D) (β := V) ob_ne (fun u => gNe_bool u _) w1 re1 r1 hz q3 p hp⟩
/-- a constant of the module -/
def GC (mg : Str → Option Value) (x : Str) (v : V) : Prop := ∃ u, mg x = some u ∧ RelV v u
theorem ev_globC {x : Str} {v : V} {d : D} (h : GC X.mg x v) (rd : ∀ F, Rp X.K F v d) (hg : Gl X x := by rfl) (hd : (x == ("__debug__" : Str)) = false := by decide) : EV X W (.Name x pos) (fC d) := by
  obtain ⟨u, h1, h2⟩ := h
  exact ev_glob h1 h2 rd hg hd
/-- a, b = [], y: the first one is made to be changed -/
def fParMV (i j : Nat) (fa : Env → R M) (fb : Env → R D) : Env → R Fl := fun env => (fa env).bind fun m e1 => (fb e1).bind fun d e2 => .ok .nx ((e2.set i (some m)).set j (some (.d d)))
theorem ds_parM {i j : Nat} {x y : Str} {fm : Env → R M} {px py pt : Pos} {kt k2 pt2} (hc : X.calm = true) (hN : X.N.Nodup) (ha : EM X W a fm) (hb : EV X W b fb) (hi : X.N[i]? = some x := by rfl) (hj : X.N[j]? = some y := by rfl) (hij : i ≠ j := by decide)
    (hx : X.env.scope.names.lookup x = some .local := by rfl) (hy : X.env.scope.names.lookup y = some .local := by rfl)
    (hw : swappedStores [.Tuple [.Name x px, .Name y py] kt pt] (.Tuple [a, b] k2 pt2) X.env = pure (some [x, y]) := by rfl)
    (hs : swapsWithSole [.Tuple [.Name x px, .Name y py] kt pt] (.Tuple [a, b] k2 pt2) pos.line X.env = pure false := by rfl)
    (h1 : starEach [a, b] X.env = (false, eval a X.env) :: starEach [b] X.env := by rfl) (h2 : starEach [b] X.env = (false, eval b X.env) :: starEach [] X.env := by rfl) :
    DS X W (.Assign [.Tuple [.Name x px, .Name y py] kt pt] (.Tuple [a, b] k2 pt2) pos) [i, j] (fParMV i j fm fb) := by
  obtain ⟨ta, pa, ka⟩ := ha
  obtain ⟨tb, pb, kb⟩ := hb
  refine ⟨_, ps_par hc hN hi hj hij hx hy (pa_cons pa (pa_cons pb pa_nil h2) h1) hw hs, fun env σ F H fp D w re q => ?_⟩
  refine ka env σ F H fp _ w re (PostS.seqE (rep1 := repM X.K) q fun m env1 v F1 H1 fq fp1 y1 w1 re1 r1 q1 => ?_)
  have wfp : Wd F1 H1 fp1 := w1.sub (List.sublist_append_right _ _)
  refine kb env1 σ F1 H1 fp1 _ wfp re1 ?_
  cases hf : fb env1 with
  | stuck => rw [hf] at q1; exact q1
  | err x e =>
    rw [hf] at q1
    intro cls dd F2 H2 fp2 y2 w2 re2 rx
    obtain ⟨z1, z2, z3⟩ := Wd.beside2 w1 (fun a ha => r1.there a ha) y2 w2
    exact q1 cls dd σ F2 H2 fp2 (z2.trans (Ev.sub fun a ha => List.mem_append_right _ ha)) w2 re2 rx (Agree.refl _ _)
  | ok d e2 =>
    rw [hf] at q1
    intro u F2 H2 fs fp2 y2 w2 re2 r2
    obtain ⟨rfl, r2⟩ := r2
    obtain ⟨z1, z2, z3⟩ := Wd.beside2 w1 (fun a ha => r1.there a ha) y2 w2
    have rm := r1.mono y2.frz fun a ha o e => z3 a ha o e
    obtain ⟨fp3, fs3, re3, pm, sb⟩ := re2.setM (i := i) rm
    obtain ⟨fp4, re4, sb4⟩ := re3.sub_set (i := j) r2
    have sub2 : (fs3 ++ (if i < σ.length then fq else [])).Sublist (fp2 ++ fq) := by
      refine sb.append ?_
      split
      · exact List.Sublist.refl _
      · exact List.nil_sublist _
    have w3 : Wd F2 H2 fp3 := ((z1.perm (List.perm_append_comm (l₁ := fp2) (l₂ := fq))).sub sub2).perm pm
    refine ⟨v, u, rfl, q1 _ F2 H2 fp4 (z2.trans (Ev.sub fun a ha => ?_)) (w3.sub sb4) re4 ((Agree.set [i, j] _ i (some v) (by simp)).trans (Agree.set [i, j] _ j (some u) (by simp)))⟩
    have := sub2.subset (pm.mem_iff.mp (sb4.subset ha))
    rcases List.mem_append.mp this with z | z
    · exact List.mem_append_right _ z
    · exact List.mem_append_left _ z
end
end DL
set_option Elab.async false
set_option linter.all false
set_option maxRecDepth 100000
set_option maxHeartbeats 4000000
namespace DL
open PySem PySem.Spec PyProof.Rows L2
/-! ### loops of the meanings, by what holds between the turns -/
def forTurn (g : D → Env → Option Env) (body : Env → R Fl) (d : D) (e : Env) : R Fl := match g d e with
  | none => .stuck
  | some e1 => body e1
theorem forL_rel {g : D → Env → Option Env} {body : Env → R Fl} (I : List D → Env → Prop) (step : ∀ d r e, I (d :: r) e → ∃ e2, forTurn g body d e = .ok .nx e2 ∧ I r e2) :
    ∀ (ds : List D) (e : Env), I ds e → ∃ e', forL g body ds e = .ok .nx e' ∧ I [] e'
  | [], e, h => ⟨e, rfl, h⟩
  | d :: r, e, h => by
    obtain ⟨e2, h1, h3⟩ := step d r e h
    obtain ⟨e', h4, h5⟩ := forL_rel I step r e2 h3
    refine ⟨e', ?_, h5⟩
    unfold forTurn at h1
    unfold forL
    cases hg : g d e with
    | none => rw [hg] at h1; cases h1
    | some e1 =>
      rw [hg] at h1
      dsimp only at h1 ⊢
      rw [h1]
      exact h4
theorem forL_inv {g : D → Env → Option Env} {body : Env → R Fl} {ds : List D} {e : Env} (I : Env → Prop) (h : I e) (step : ∀ d ∈ ds, ∀ e, I e → ∃ e2, forTurn g body d e = .ok .nx e2 ∧ I e2) :
    ∃ e', forL g body ds e = .ok .nx e' ∧ I e' := by
  obtain ⟨e', h1, h2⟩ := forL_rel (g := g) (body := body) (fun r e => (∀ d ∈ r, d ∈ ds) ∧ I e) (fun d r e h => by
    obtain ⟨e2, h1, h3⟩ := step d (h.1 d List.mem_cons_self) e h.2
    exact ⟨e2, h1, fun x hx => h.1 x (List.mem_cons_of_mem _ hx), h3⟩) ds e ⟨fun _ h => h, h⟩
  exact ⟨e', h1, h2.2⟩
/-- one turn of a comprehension -/
def lcTurn (own : List Nat) (g : D → Env → Option Env) (fc : Env → R Bool) (fe : Env → R D) (d : D) (e : Env) : R (Option D) := match g d e with
  | none => .stuck
  | some e1 => match fc e1 with
    | .ok true e2 => match fe e2 with
      | .ok y e3 => .ok (some y) (wipeE e3 own)
      | _ => .stuck
    | .ok false e2 => .ok none (wipeE e2 own)
    | _ => .stuck
theorem lcL_rel {own : List Nat} {g : D → Env → Option Env} {fc : Env → R Bool} {fe : Env → R D} (I : List D → Env → List D → Prop)
    (step : ∀ d r e acc, I (d :: r) e acc → ∃ o e', lcTurn own g fc fe d e = .ok o e' ∧ I r e' (acc ++ o.toList)) :
    ∀ (ds : List D) (e : Env) (acc : List D), acc.length + ds.length ≤ sizeLine → I ds e acc → ∃ ys e', lcL own g fc fe ds e acc = .ok ys e' ∧ I [] e' ys
  | [], e, acc, _, h => ⟨acc, e, rfl, h⟩
  | d :: r, e, acc, hl, h => by
    obtain ⟨o, e', h1, h3⟩ := step d r e acc h
    rw [List.length_cons] at hl
    unfold lcTurn at h1
    unfold lcL
    cases hg : g d e with
    | none => rw [hg] at h1; cases h1
    | some e1 =>
      rw [hg] at h1
      dsimp only at h1 ⊢
      cases hc : fc e1 with
      | stuck => rw [hc] at h1; cases h1
      | err x e2 => rw [hc] at h1; cases h1
      | ok b e2 =>
        rw [hc] at h1
        cases b with
        | false =>
          dsimp only at h1 ⊢
          cases h1
          exact lcL_rel I step r _ acc (by omega) (by simpa using h3)
        | true =>
          dsimp only at h1 ⊢
          cases hv : fe e2 with
          | stuck => rw [hv] at h1; cases h1
          | err x e2 => rw [hv] at h1; cases h1
          | ok y e3 =>
            rw [hv] at h1
            dsimp only at h1 ⊢
            cases h1
            rw [if_pos (by omega)]
            exact lcL_rel I step r _ (acc ++ [y]) (by rw [List.length_append, List.length_singleton]; omega) (by simpa using h3)
/-- every turn leaves the slots as they were -/
theorem lcL_map {own : List Nat} {g : D → Env → Option Env} {fc : Env → R Bool} {fe : Env → R D} {ds : List D} {e : Env} (h : D → Option D) (hl : ds.length ≤ sizeLine)
    (step : ∀ d ∈ ds, lcTurn own g fc fe d e = .ok (h d) e) : lcL own g fc fe ds e [] = .ok (ds.filterMap h) e := by
  obtain ⟨ys, e', h1, pre, h2, h3, h4⟩ := lcL_rel (own := own) (g := g) (fc := fc) (fe := fe) (fun r e' acc => ∃ pre, pre ++ r = ds ∧ e' = e ∧ acc = pre.filterMap h) (fun d r e2 acc => by
    rintro ⟨pre, h1, rfl, rfl⟩
    refine ⟨h d, e2, step d (by rw [← h1]; simp), pre ++ [d], by simpa using h1, rfl, ?_⟩
    rw [List.filterMap_append]
    cases hd : h d <;> simp [hd]) ds e [] (by simpa using hl) ⟨[], rfl, rfl, rfl⟩
  rw [List.append_nil] at h2
  rw [h1, h4, h3, h2]
/-! ### one behind the other -/
theorem fSeq_ok {f g : Env → R Fl} {env e : Env} (h : f env = .ok .nx e) : fSeq f g env = g e := by
  unfold fSeq
  rw [h]
  rfl
theorem fFrz_ok {f : Env → R M} {env e : Env} {m : M} (h : f env = .ok m e) : fFrz f env = .ok (frz m) e := by
  unfold fFrz
  rw [h]
  rfl
theorem fUp_ok {f : Env → R D} {env e : Env} {d : D} (h : f env = .ok d e) : fUp f env = .ok (.d d) e := by
  unfold fUp
  rw [h]
  rfl
theorem fRet_ok {f : Env → R M} {env e : Env} {m : M} (h : f env = .ok m e) : fRet f env = .ok (.rt m) e := by
  unfold fRet
  rw [h]
  rfl
theorem fSetV_ok {f : Env → R D} {env e : Env} {d : D} {i : Nat} (h : f env = .ok d e) : fSetV i f env = .ok .nx (e.set i (some (.d d))) := by
  unfold fSetV
  rw [h]
  rfl
theorem fSetM_ok {f : Env → R M} {env e : Env} {m : M} {i : Nat} (h : f env = .ok m e) : fSetM i f env = .ok .nx (e.set i (some m)) := by
  unfold fSetM
  rw [h]
  rfl
theorem fLc_ok {own : List Nat} {fi : Env → R (List D)} {g : D → Env → Option Env} {fc : Env → R Bool} {fe : Env → R D} {env e e' : Env} {ds ys : List D} (h1 : fi env = .ok ds e) (h2 : lcL own g fc fe ds (wipeE e own) [] = .ok ys e') :
    fLc own fi g fc fe env = .ok (.lst (ys.map .d)) e' := by
  unfold fLc
  rw [h1]
  show (match lcL own g fc fe ds (wipeE e own) [] with | .ok ys e' => R.ok (M.lst (ys.map .d)) e' | _ => .stuck) = _
  rw [h2]
theorem fFor_ok {fi : Env → R (List D)} {g : D → Env → Option Env} {b : Env → R Fl} {env e e' : Env} {ds : List D} {fl : Fl} (h1 : fi env = .ok ds e) (h2 : forL g b ds e = .ok fl e') : fFor fi g b env = .ok fl e' := by
  unfold fFor
  rw [h1]
  exact h2
theorem fIf_t {α : Type} {t : Env → R Bool} {f g : Env → R α} {env e : Env} (h : t env = .ok true e) : fIf t f g env = f e := by
  unfold fIf
  rw [h]
  rfl
theorem fIf_f {α : Type} {t : Env → R Bool} {f g : Env → R α} {env e : Env} (h : t env = .ok false e) : fIf t f g env = g e := by
  unfold fIf
  rw [h]
  rfl
theorem f1_ok {g : D → Option D} {f : Env → R D} {env e : Env} {d z : D} (h : f env = .ok d e) (hz : g d = some z) : f1 g f env = .ok z e := by
  unfold f1
  rw [h]
  show R.of (g d) e = _
  rw [hz]
  rfl
theorem f2_ok {g : D → D → Option D} {fa fb : Env → R D} {env e1 e2 : Env} {a b z : D} (h1 : fa env = .ok a e1) (h2 : fb e1 = .ok b e2) (hz : g a b = some z) : f2 g fa fb env = .ok z e2 := by
  unfold f2
  rw [h1]
  show (fb e1).bind _ = _
  rw [h2]
  show R.of (g a b) e2 = _
  rw [hz]
  rfl
theorem f2S_ok {g : Str → D → Option D} {fa fb : Env → R D} {env e1 e2 : Env} {a : Str} {b z : D} (h1 : fa env = .ok (.str a) e1) (h2 : fb e1 = .ok b e2) (hz : g a b = some z) : f2S g fa fb env = .ok z e2 := by
  unfold f2S
  rw [h1]
  show (fb e1).bind _ = _
  rw [h2]
  show R.of (g a b) e2 = _
  rw [hz]
  rfl
theorem fB_ok {f : Env → R D} {env e : Env} {b : Bool} (h : f env = .ok (.bool b) e) : fB f env = .ok b e := by
  unfold fB
  rw [h]
  rfl
theorem runF_rt {n size : Nat} {br : List Bool} {f : Env → R Fl} {ms : List M} {m : M} {os : List M} {e : Env} (h1 : ms.length = n) (h2 : f (ms.map some ++ List.replicate (size - n) none) = .ok (.rt m) e) (h3 : outs br e = some os) : runF n size br f ms = .ok m os := by
  unfold runF
  rw [if_pos h1, h2]
  dsimp only
  rw [h3]
theorem frz_mds (l : List D) : frz (.lst (l.map .d)) = .list l := by
  rw [frz, frzs_d]
/-! ### calls -/
theorem callA_ok {br : List Bool} {G : List M → RF} {as : List Arg} {e : Env} {ms os : List M} {m : M} (h1 : (slotsOf as).Nodup) (h2 : as.map isS = br) (h3 : argMs e as = some ms) (h4 : G ms = .ok m os) : callA br G as e = .ok m (putE (clrE e (slotsOf as)) (slotsOf as) os) := by
  unfold callA
  rw [if_pos ⟨h1, h2⟩, h3]
  dsimp only
  rw [h4]
theorem call_ok {br : List Bool} {G : List M → RF} {fa : Env → R (List Arg)} {as : List Arg} {env e : Env} {ms os : List M} {m : M} (h0 : fa env = .ok as e) (h1 : (slotsOf as).Nodup) (h2 : as.map isS = br) (h3 : argMs e as = some ms) (h4 : G ms = .ok m os) : fCall br G fa env = .ok m (putE (clrE e (slotsOf as)) (slotsOf as) os) := by
  unfold fCall
  rw [h0]
  exact callA_ok h1 h2 h3 h4
theorem call0_ok {G : List M → RF} {env : Env} {m : M} (h4 : G [] = .ok m []) : fCall0 [] G env = .ok m env := by
  unfold fCall0
  exact callA_ok (as := []) List.nodup_nil rfl rfl h4
theorem fConsA_ok {fa : Env → R D} {fr : Env → R (List Arg)} {env e1 e2 : Env} {d : D} {as : List Arg} (h1 : fa env = .ok d e1) (h2 : fr e1 = .ok as e2) : fConsA fa fr env = .ok (.d d :: as) e2 := by
  unfold fConsA
  rw [h1]
  show (fr e1).bind _ = _
  rw [h2]
  rfl
theorem fItA_ok {g : List Arg → Option (List D)} {fa : Env → R (List Arg)} {env e : Env} {as : List Arg} {z : List D} (h : fa env = .ok as e) (hz : g as = some z) : fItA g fa env = .ok z e := by
  unfold fItA
  rw [h]
  show R.of (g as) e = _
  rw [hz]
  rfl
theorem fIt_ok {g : D → Option (List D)} {fa : Env → R D} {env e : Env} {d : D} {z : List D} (h : fa env = .ok d e) (hz : g d = some z) : fIt g fa env = .ok z e := by
  unfold fIt
  rw [h]
  show R.of (g d) e = _
  rw [hz]
  rfl
end DL
set_option Elab.async false
set_option linter.all false
set_option maxRecDepth 100000
set_option maxHeartbeats 4000000
namespace DL
open PySem PySem.Spec PyProof.Rows L2
/-! ### meanings run step by step: Wp r Q: r ends well, and Q holds of what it hands back and the slots behind it -/
def Wp {α : Type} (r : R α) (Q : α → Env → Prop) : Prop := ∃ a e, r = .ok a e ∧ Q a e
/-- of a def -/
def Fw (r : RF) (Q : M → List M → Prop) : Prop := ∃ m os, r = .ok m os ∧ Q m os
/-- of an operation -/
def Lf {α : Type} (o : Option α) (Q : α → Prop) : Prop := ∃ z, o = some z ∧ Q z
theorem fAppend_okW {i : Nat} {fa : Env → R M} {env e1 : Env} {ms0 ms : List M} {m : M} (h0 : slot env i = some (.lst ms0)) (h1 : fa env = .ok m e1) (h2 : slot e1 i = some (.lst ms)) (hl : ms.length < 16777216) :
    fAppend i fa env = .ok .none (e1.set i (some (.lst (ms ++ [m])))) := by
  unfold fAppend
  rw [h0]
  dsimp only
  rw [h1]
  show (match slot e1 i with | some (.lst ms) => if ms.length < sizeLine then R.ok PyData.none (e1.set i (some (.lst (ms ++ [m])))) else .stuck | _ => .stuck) = _
  rw [h2]
  dsimp only
  rw [if_pos (by rw [sizeLine_eq]; exact hl)]
section
variable {α β : Type} {e : Env}
theorem Wp.mono {r : R α} {Q Q' : α → Env → Prop} (h : Wp r Q) (k : ∀ a e, Q a e → Q' a e) : Wp r Q' := by
  obtain ⟨a, e, h1, h2⟩ := h
  exact ⟨a, e, h1, k a e h2⟩
theorem Fw.mono {r : RF} {Q Q' : M → List M → Prop} (h : Fw r Q) (k : ∀ a e, Q a e → Q' a e) : Fw r Q' := by
  obtain ⟨a, e, h1, h2⟩ := h
  exact ⟨a, e, h1, k a e h2⟩
theorem fw_eq {r : RF} {m : M} {os : List M} (h : Fw r fun a b => a = m ∧ b = os) : r = .ok m os := by
  obtain ⟨a, b, h1, rfl, rfl⟩ := h
  exact h1
theorem fw_of {r : RF} {m : M} {os : List M} {Q : M → List M → Prop} (h : r = .ok m os) (q : Q m os) : Fw r Q := ⟨m, os, h, q⟩
theorem wp_eq {r : R α} {a : α} {e : Env} (h : Wp r fun x y => x = a ∧ y = e) : r = .ok a e := by
  obtain ⟨a, b, h1, rfl, rfl⟩ := h
  exact h1
theorem wp_of {r : R α} {a : α} {e : Env} {Q : α → Env → Prop} (h : r = .ok a e) (q : Q a e) : Wp r Q := ⟨a, e, h, q⟩
theorem lf {o : Option α} {z : α} {Q : α → Prop} (h : o = some z) (q : Q z) : Lf o Q := ⟨z, h, q⟩
theorem wp_bind {r : R α} {g : α → Env → R β} {Q : β → Env → Prop} (h : Wp r fun a e => Wp (g a e) Q) : Wp (r.bind g) Q := by
  obtain ⟨a, e, rfl, b, e', h1, h2⟩ := h
  exact ⟨b, e', h1, h2⟩
theorem wp_ofo {o : Option α} {Q : α → Env → Prop} (h : Lf o fun z => Q z e) : Wp (R.of o e) Q := by
  obtain ⟨z, rfl, h⟩ := h
  exact ⟨z, e, rfl, h⟩
theorem wp_ok {a : α} {Q : α → Env → Prop} (q : Q a e) : Wp (.ok a e) Q := ⟨a, e, rfl, q⟩
/-! expressions -/
theorem wp_var {i : Nat} {d : D} {Q : D → Env → Prop} (h : slot e i = some (.d d)) (q : Q d e) : Wp (fVar i e) Q := ⟨d, e, by unfold fVar; rw [h], q⟩
theorem wp_c {d : D} {Q : D → Env → Prop} (q : Q d e) : Wp (fC d e) Q := ⟨d, e, rfl, q⟩
theorem wp_frz {f : Env → R M} {Q : D → Env → Prop} (h : Wp (f e) fun m e1 => ∃ z, frz m = z ∧ Q z e1) : Wp (fFrz f e) Q := wp_bind (h.mono fun _ _ q => by
  obtain ⟨z, rfl, q⟩ := q
  exact wp_ok q)
theorem frz_go {m : M} {z : D} {P : D → Prop} (h : frz m = z) (p : P z) : ∃ z, frz m = z ∧ P z := ⟨z, h, p⟩
theorem frz_dd {d : D} : frz (.d d) = d := by rw [frz]
theorem eq_go {α : Type} {a z : α} {P : α → Prop} (h : a = z) (p : P z) : ∃ z, a = z ∧ P z := ⟨z, h, p⟩
theorem wp_up {f : Env → R D} {Q : M → Env → Prop} (h : Wp (f e) fun d e1 => Q (.d d) e1) : Wp (fUp f e) Q := wp_bind (h.mono fun _ _ q => wp_ok q)
theorem wp_f1 {g : D → Option D} {f : Env → R D} {Q : D → Env → Prop} (h : Wp (f e) fun d e1 => Lf (g d) fun z => Q z e1) : Wp (f1 g f e) Q := wp_bind (h.mono fun _ _ q => wp_ofo q)
theorem wp_f2 {g : D → D → Option D} {fa fb : Env → R D} {Q : D → Env → Prop} (h : Wp (fa e) fun a e1 => Wp (fb e1) fun b e2 => Lf (g a b) fun z => Q z e2) : Wp (f2 g fa fb e) Q :=
  wp_bind (h.mono fun _ _ q => wp_bind (q.mono fun _ _ q => wp_ofo q))
theorem wp_f2S {g : Str → D → Option D} {fa fb : Env → R D} {Q : D → Env → Prop} (h : Wp (fa e) fun a e1 => ∃ x, a = .str x ∧ Wp (fb e1) fun b e2 => Lf (g x b) fun z => Q z e2) : Wp (f2S g fa fb e) Q :=
  wp_bind (h.mono fun a _ q => by
    obtain ⟨x, rfl, q⟩ := q
    exact wp_bind (q.mono fun _ _ q => wp_ofo q))
theorem wp_f1S {g : Str → Option D} {fa : Env → R D} {Q : D → Env → Prop} (h : Wp (fa e) fun a e1 => ∃ x, a = .str x ∧ Lf (g x) fun z => Q z e1) : Wp (f1S g fa e) Q :=
  wp_bind (h.mono fun a _ q => by
    obtain ⟨x, rfl, q⟩ := q
    exact wp_ofo q)
theorem wp_isS {x : Str} {Q : Str → Prop} (q : Q x) : ∃ y, PyData.str x = .str y ∧ Q y := ⟨x, rfl, q⟩
theorem wp_fB {f : Env → R D} {Q : Bool → Env → Prop} (h : Wp (f e) fun d e1 => Lf (bD d) fun b => Q b e1) : Wp (fB f e) Q := wp_bind (h.mono fun _ _ q => wp_ofo q)
theorem lf_bD {b : Bool} {Q : Bool → Prop} (q : Q b) : Lf (bD (.bool b)) Q := ⟨b, rfl, q⟩
theorem wp_tru {f : Env → R D} {Q : Bool → Env → Prop} (h : Wp (f e) fun d e1 => Lf (truD d) fun b => Q b e1) : Wp (fTru f e) Q := wp_bind (h.mono fun _ _ q => wp_ofo q)
theorem wp_ob {f : Env → R Bool} {Q : D → Env → Prop} (h : Wp (f e) fun b e1 => Q (.bool b) e1) : Wp (fOb f e) Q := wp_bind (h.mono fun _ _ q => wp_ok q)
theorem wp_not {f : Env → R Bool} {Q : Bool → Env → Prop} (h : Wp (f e) fun b e1 => Q (!b) e1) : Wp (fNot f e) Q := wp_bind (h.mono fun _ _ q => wp_ok q)
/-- the way that a test goes -/
def Way (b : Bool) (p q : Prop) : Prop := (b = true → p) ∧ (b = false → q)
theorem way_t {b : Bool} {p q : Prop} (h : b = true) (k : p) : Way b p q := ⟨fun _ => k, fun z => Bool.noConfusion (h.symm.trans z)⟩
theorem way_f {b : Bool} {p q : Prop} (h : b = false) (k : q) : Way b p q := ⟨fun z => Bool.noConfusion (h.symm.trans z), fun _ => k⟩
theorem way_not {b : Bool} {p q : Prop} (h : Way b q p) : Way (!b) p q := by
  cases b
  · exact ⟨fun _ => h.2 rfl, fun z => Bool.noConfusion z⟩
  · exact ⟨fun z => Bool.noConfusion z, fun _ => h.1 rfl⟩
theorem way_dec {c : Prop} [Decidable c] {p q : Prop} (h : c → p) (k : ¬ c → q) : Way (decide c) p q := ⟨fun z => h (of_decide_eq_true z), fun z => k (of_decide_eq_false z)⟩
theorem way_dt {c : Prop} [Decidable c] {p q : Prop} (h : c) (k : p) : Way (decide c) p q := way_t (decide_eq_true h) k
theorem way_df {c : Prop} [Decidable c] {p q : Prop} (h : ¬ c) (k : q) : Way (decide c) p q := way_f (decide_eq_false h) k
theorem wp_and {a b : Env → R Bool} {Q : Bool → Env → Prop} (h : Wp (a e) fun x e1 => Way x (Wp (b e1) Q) (Q false e1)) : Wp (fAnd a b e) Q :=
  wp_bind (h.mono fun x e1 q => by
    cases x
    · exact wp_ok (q.2 rfl)
    · exact q.1 rfl)
theorem wp_or {a b : Env → R Bool} {Q : Bool → Env → Prop} (h : Wp (a e) fun x e1 => Way x (Q true e1) (Wp (b e1) Q)) : Wp (fOr a b e) Q :=
  wp_bind (h.mono fun x e1 q => by
    cases x
    · exact q.2 rfl
    · exact wp_ok (q.1 rfl))
theorem wp_if {t : Env → R Bool} {f g : Env → R α} {Q : α → Env → Prop} (h : Wp (t e) fun x e1 => Way x (Wp (f e1) Q) (Wp (g e1) Q)) : Wp (fIf t f g e) Q :=
  wp_bind (h.mono fun x e1 q => by
    cases x
    · exact q.2 rfl
    · exact q.1 rfl)
/-! arguments, displays -/
theorem wp_nilA {Q : List Arg → Env → Prop} (q : Q [] e) : Wp (fNilA e) Q := ⟨_, _, rfl, q⟩
theorem wp_consA {fa : Env → R D} {fr : Env → R (List Arg)} {Q : List Arg → Env → Prop} (h : Wp (fa e) fun d e1 => Wp (fr e1) fun as e2 => Q (.d d :: as) e2) : Wp (fConsA fa fr e) Q :=
  wp_bind (h.mono fun _ _ q => wp_bind (q.mono fun _ _ q => wp_ok q))
theorem wp_slotA {i : Nat} {m : M} {fr : Env → R (List Arg)} {Q : List Arg → Env → Prop} (h : slot e i = some m) (k : Wp (fr e) fun as e2 => Q (.s i :: as) e2) : Wp (fSlotA i fr e) Q := by
  unfold fSlotA
  rw [h]
  exact wp_bind (k.mono fun _ _ q => wp_ok q)
theorem wp_tup {fr : Env → R (List Arg)} {Q : D → Env → Prop} (h : Wp (fr e) fun as e1 => ∃ ds, argD as = some ds ∧ ds.length ≤ 16777216 ∧ Q (.tuple ds) e1) : Wp (fTup fr e) Q :=
  wp_bind (h.mono fun as e1 q => by
    obtain ⟨ds, h1, h2, q⟩ := q
    refine wp_ofo ⟨_, ?_, q⟩
    rw [h1]
    show (if ds.length ≤ sizeLine then _ else _) = _
    rw [if_pos (by rw [sizeLine_eq]; exact h2)])
theorem wp_lst {fr : Env → R (List Arg)} {Q : D → Env → Prop} (h : Wp (fr e) fun as e1 => ∃ ds, argD as = some ds ∧ ds.length ≤ 16777216 ∧ Q (.list ds) e1) : Wp (fLst fr e) Q :=
  wp_bind (h.mono fun as e1 q => by
    obtain ⟨ds, h1, h2, q⟩ := q
    refine wp_ofo ⟨_, ?_, q⟩
    rw [h1]
    show (if ds.length ≤ sizeLine then _ else _) = _
    rw [if_pos (by rw [sizeLine_eq]; exact h2)])
theorem wp_lstM {fr : Env → R (List Arg)} {Q : M → Env → Prop} (h : Wp (fr e) fun as e1 => ∃ ds, argD as = some ds ∧ ds.length ≤ 16777216 ∧ Q (.lst (ds.map .d)) e1) : Wp (fLstM fr e) Q :=
  wp_bind (h.mono fun as e1 q => by
    obtain ⟨ds, h1, h2, q⟩ := q
    refine wp_ofo ⟨_, ?_, q⟩
    rw [h1]
    show (if ds.length ≤ sizeLine then _ else _) = _
    rw [if_pos (by rw [sizeLine_eq]; exact h2)])
theorem wp_noPart {Q : Option Int → Env → Prop} (q : Q none e) : Wp (fNoPart e) Q := ⟨_, _, rfl, q⟩
theorem wp_part {fa : Env → R D} {Q : Option Int → Env → Prop} (h : Wp (fa e) fun d e1 => ∃ i, d = .int i ∧ Q (some i) e1) : Wp (fPart fa e) Q :=
  wp_bind (h.mono fun d e1 q => by
    obtain ⟨i, rfl, q⟩ := q
    exact ⟨_, _, rfl, q⟩)
theorem wp_isI {i : Int} {Q : Int → Prop} (q : Q i) : ∃ j, PyData.int i = .int j ∧ Q j := ⟨i, rfl, q⟩
theorem wp_sl {fa : Env → R D} {fl fh : Env → R (Option Int)} {Q : D → Env → Prop} (h : Wp (fa e) fun d e1 => Wp (fl e1) fun lo e2 => Wp (fh e2) fun hi e3 => Lf (gSl d lo hi) fun z => Q z e3) : Wp (fSl fa fl fh e) Q :=
  wp_bind (h.mono fun _ _ q => wp_bind (q.mono fun _ _ q => wp_bind (q.mono fun _ _ q => wp_ofo q)))
theorem wp_fArgs {g : List Arg → Option D} {fr : Env → R (List Arg)} {Q : D → Env → Prop} (h : Wp (fr e) fun as e1 => Lf (g as) fun z => Q z e1) : Wp (fArgs g fr e) Q := wp_bind (h.mono fun _ _ q => wp_ofo q)
theorem wp_it {g : D → Option (List D)} {fa : Env → R D} {Q : List D → Env → Prop} (h : Wp (fa e) fun d e1 => Lf (g d) fun z => Q z e1) : Wp (fIt g fa e) Q := wp_bind (h.mono fun _ _ q => wp_ofo q)
theorem wp_itA {g : List Arg → Option (List D)} {fa : Env → R (List Arg)} {Q : List D → Env → Prop} (h : Wp (fa e) fun as e1 => Lf (g as) fun z => Q z e1) : Wp (fItA g fa e) Q := wp_bind (h.mono fun _ _ q => wp_ofo q)
theorem wp_yes {Q : Bool → Env → Prop} (q : Q true e) : Wp (fYes e) Q := ⟨_, _, rfl, q⟩
theorem wp_joined {f : Str → Env → R Str} {Q : D → Env → Prop} (h : Wp (f Str.empty e) fun y e1 => Q (.str y) e1) : Wp (fJoined f e) Q := wp_bind (h.mono fun _ _ q => wp_ok q)
theorem wp_j0 {acc : Str} {Q : Str → Env → Prop} (q : Q acc e) : Wp (fJ0 acc e) Q := ⟨_, _, rfl, q⟩
theorem wp_j {fa : Env → R D} {fr : Str → Env → R Str} {acc : Str} {Q : Str → Env → Prop} (h : Wp (fa e) fun d e1 => ∃ y, d = .str y ∧ (acc ++ y).length ≤ 16777216 ∧ Wp (fr (acc ++ y) e1) Q) : Wp (fJ fa fr acc e) Q :=
  wp_bind (h.mono fun d e1 q => by
    obtain ⟨y, rfl, h1, q⟩ := q
    show Wp (if (acc ++ y).length ≤ sizeLine then _ else _) _
    rw [if_pos (by rw [sizeLine_eq]; exact h1)]
    exact q)
theorem wp_andV {fa fb : Env → R D} {Q : D → Env → Prop} (h : Wp (fa e) fun d e1 => ∃ b, d = .bool b ∧ Way b (Wp (fb e1) Q) (Q (.bool false) e1)) : Wp (fAndV fa fb e) Q :=
  wp_bind (h.mono fun d e1 q => by
    obtain ⟨b, rfl, q⟩ := q
    cases b
    · exact wp_ok (q.2 rfl)
    · exact q.1 rfl)
/-! statements -/
theorem wp_seq {f g : Env → R Fl} {Q : Fl → Env → Prop} (h : Wp (f e) fun fl e1 => Wp (thenF g fl e1) Q) : Wp (fSeq f g e) Q := wp_bind h
theorem wp_then_nx {g : Env → R Fl} {Q : Fl → Env → Prop} (h : Wp (g e) Q) : Wp (thenF g .nx e) Q := h
theorem wp_then_rt {g : Env → R Fl} {m : M} {Q : Fl → Env → Prop} (h : Q (.rt m) e) : Wp (thenF g (.rt m) e) Q := ⟨_, _, rfl, h⟩
theorem wp_nx {Q : Fl → Env → Prop} (q : Q .nx e) : Wp (fNx e) Q := ⟨_, _, rfl, q⟩
theorem wp_ret {f : Env → R M} {Q : Fl → Env → Prop} (h : Wp (f e) fun m e1 => Q (.rt m) e1) : Wp (fRet f e) Q := wp_bind (h.mono fun _ _ q => wp_ok q)
theorem wp_setV {i : Nat} {f : Env → R D} {Q : Fl → Env → Prop} (h : Wp (f e) fun d e1 => Q .nx (e1.set i (some (.d d)))) : Wp (fSetV i f e) Q := wp_bind (h.mono fun _ _ q => wp_ok q)
theorem wp_setM {i : Nat} {f : Env → R M} {Q : Fl → Env → Prop} (h : Wp (f e) fun m e1 => Q .nx (e1.set i (some m))) : Wp (fSetM i f e) Q := wp_bind (h.mono fun _ _ q => wp_ok q)
theorem wp_drop {f : Env → R D} {Q : Fl → Env → Prop} (h : Wp (f e) fun d e1 => Q .nx e1) : Wp (fDrop f e) Q := wp_bind (h.mono fun _ _ q => wp_ok q)
theorem wp_still {i : Nat} {f : Env → R Fl} {Q : Fl → Env → Prop} {m : M} (h : slot e i = some m) (k : ∃ z, frz m = z ∧ ∃ e1, e.set i (some (.d z)) = e1 ∧ Wp (f e1) Q) : Wp (fStill i f e) Q := by
  obtain ⟨z, rfl, e1, rfl, k⟩ := k
  unfold fStill still
  rw [h]
  exact k
theorem wp_par {i j : Nat} {fr : Env → R (List Arg)} {Q : Fl → Env → Prop} (h : Wp (fr e) fun as e1 => ∃ x y, as = [.d x, .d y] ∧ Q .nx ((e1.set i (some (.d x))).set j (some (.d y)))) : Wp (fPar i j fr e) Q :=
  wp_bind (h.mono fun as e1 q => by
    obtain ⟨x, y, rfl, q⟩ := q
    exact ⟨_, _, rfl, q⟩)
theorem wp_parMV {i j : Nat} {fa : Env → R M} {fb : Env → R D} {Q : Fl → Env → Prop} (h : Wp (fa e) fun m e1 => Wp (fb e1) fun d e2 => Q .nx ((e2.set i (some m)).set j (some (.d d)))) : Wp (fParMV i j fa fb e) Q :=
  wp_bind (h.mono fun _ _ q => wp_bind (q.mono fun _ _ q => wp_ok q))
theorem wp_asg {fa : Env → R D} {g : D → Env → Option Env} {Q : Fl → Env → Prop} (h : Wp (fa e) fun d e1 => ∃ e2, g d e1 = some e2 ∧ Q .nx e2) : Wp (fAsg fa g e) Q :=
  wp_bind (h.mono fun d e1 q => by
    obtain ⟨e2, h1, q⟩ := q
    rw [h1]
    exact ⟨_, _, rfl, q⟩)
theorem wp_append {i : Nat} {fa : Env → R M} {ms0 : List M} {Q : D → Env → Prop} (h0 : slot e i = some (.lst ms0)) (h : Wp (fa e) fun m e1 => ∃ ms, slot e1 i = some (.lst ms) ∧ ms.length < 16777216 ∧ Q .none (e1.set i (some (.lst (ms ++ [m]))))) : Wp (fAppend i fa e) Q := by
  obtain ⟨m, e1, h1, ms, h2, h3, q⟩ := h
  exact ⟨_, _, fAppend_okW h0 h1 h2 h3, q⟩
theorem wp_for {fi : Env → R (List D)} {g : D → Env → Option Env} {b : Env → R Fl} {Q : Fl → Env → Prop} (h : Wp (fi e) fun ds e1 => Wp (forL g b ds e1) Q) : Wp (fFor fi g b e) Q := wp_bind h
/-- a loop by what holds between the turns; a turn may end the def -/
theorem wp_forL {g : D → Env → Option Env} {b : Env → R Fl} {Q : Fl → Env → Prop} (I : List D → Env → Prop)
    (step : ∀ d r e, I (d :: r) e → ∃ e1, g d e = some e1 ∧ Wp (b e1) fun fl e2 => ((fl = .nx ∨ fl = .ct) ∧ I r e2) ∨ (fl = .bk ∧ Q .nx e2) ∨ (∃ m, fl = .rt m ∧ Q (.rt m) e2)) (fin : ∀ e, I [] e → Q .nx e) :
    ∀ (ds : List D) (e : Env), I ds e → Wp (forL g b ds e) Q
  | [], e, h => ⟨_, _, rfl, fin e h⟩
  | d :: r, e, h => by
    obtain ⟨e1, h1, fl, e2, h2, h3⟩ := step d r e h
    unfold forL
    rw [h1]
    dsimp only
    rw [h2]
    rcases h3 with ⟨rfl | rfl, h3⟩ | ⟨rfl, h3⟩ | ⟨m, rfl, h3⟩
    · exact wp_forL I step fin r e2 h3
    · exact wp_forL I step fin r e2 h3
    · exact ⟨_, _, rfl, h3⟩
    · exact ⟨_, _, rfl, h3⟩
/-! comprehensions -/
theorem wp_lc {own : List Nat} {fi : Env → R (List D)} {g : D → Env → Option Env} {fc : Env → R Bool} {fe : Env → R D} {Q : M → Env → Prop} (h : Wp (fi e) fun ds e1 => ∃ e2, wipeE e1 own = e2 ∧ Wp (lcL own g fc fe ds e2 []) fun ys e2 => Q (.lst (ys.map .d)) e2) : Wp (fLc own fi g fc fe e) Q := by
  obtain ⟨ds, e1, h1, _, rfl, ys, e2, h2, q⟩ := h
  exact ⟨_, _, fLc_ok h1 h2, q⟩
/-- one turn -/
def Lt (own : List Nat) (g : D → Env → Option Env) (fc : Env → R Bool) (fe : Env → R D) (d : D) (e : Env) (Q : Option D → Env → Prop) : Prop :=
  ∃ e1, g d e = some e1 ∧ Wp (fc e1) fun b e2 => Way b (Wp (fe e2) fun y e3 => ∃ e4, wipeE e3 own = e4 ∧ Q (some y) e4) (∃ e4, wipeE e2 own = e4 ∧ Q none e4)
theorem Lt.turn {own : List Nat} {g : D → Env → Option Env} {fc : Env → R Bool} {fe : Env → R D} {d : D} {e : Env} {Q : Option D → Env → Prop} (h : Lt own g fc fe d e Q) : ∃ o e', lcTurn own g fc fe d e = .ok o e' ∧ Q o e' := by
  obtain ⟨e1, h1, b, e2, h2, h3⟩ := h
  unfold lcTurn
  rw [h1]
  dsimp only
  rw [h2]
  cases b with
  | false =>
    obtain ⟨_, rfl, h5⟩ := h3.2 rfl
    exact ⟨_, _, rfl, h5⟩
  | true =>
    obtain ⟨y, e3, h4, _, rfl, h5⟩ := h3.1 rfl
    dsimp only
    rw [h4]
    exact ⟨_, _, rfl, h5⟩
theorem wp_lcL_nil {own : List Nat} {g : D → Env → Option Env} {fc : Env → R Bool} {fe : Env → R D} {acc : List D} {Q : List D → Env → Prop} (q : Q acc e) : Wp (lcL own g fc fe [] e acc) Q := ⟨_, _, rfl, q⟩
theorem wp_lcL_cons {own : List Nat} {g : D → Env → Option Env} {fc : Env → R Bool} {fe : Env → R D} {d : D} {ds acc : List D} {Q : List D → Env → Prop} (hl : acc.length < 16777216)
    (h : Lt own g fc fe d e fun o e' => Wp (lcL own g fc fe ds e' (acc ++ o.toList)) Q) : Wp (lcL own g fc fe (d :: ds) e acc) Q := by
  obtain ⟨e1, h1, b, e2, h2, h3⟩ := h
  cases b with
  | false =>
    obtain ⟨_, rfl, ys, e', h4, q⟩ := h3.2 rfl
    refine ⟨ys, e', ?_, q⟩
    unfold lcL
    rw [h1]
    dsimp only
    rw [h2]
    simpa using h4
  | true =>
    obtain ⟨y, e3, h4, _, rfl, ys, e', h5, q⟩ := h3.1 rfl
    refine ⟨ys, e', ?_, q⟩
    unfold lcL
    rw [h1]
    dsimp only
    rw [h2]
    dsimp only
    rw [h4]
    dsimp only
    rw [if_pos (by rw [sizeLine_eq]; exact hl)]
    exact h5
/-- every turn leaves the slots as they were -/
theorem wp_lcL_map {own : List Nat} {g : D → Env → Option Env} {fc : Env → R Bool} {fe : Env → R D} {ds : List D} {Q : List D → Env → Prop} (h : D → Option D) (hl : ds.length ≤ 16777216)
    (step : ∀ d ∈ ds, Lt own g fc fe d e fun o e' => o = h d ∧ e' = e) (q : Q (ds.filterMap h) e) : Wp (lcL own g fc fe ds e []) Q :=
  ⟨_, _, lcL_map h (by rw [sizeLine_eq]; exact hl) fun d hd => by
    obtain ⟨o, e', h1, rfl, rfl⟩ := (step d hd).turn
    exact h1, q⟩
theorem wp_lcL_inv {own : List Nat} {g : D → Env → Option Env} {fc : Env → R Bool} {fe : Env → R D} {ds : List D} {Q : List D → Env → Prop} (I : List D → Env → List D → Prop) (hl : ds.length ≤ 16777216) (h0 : I ds e [])
    (step : ∀ d r e acc, I (d :: r) e acc → Lt own g fc fe d e fun o e' => I r e' (acc ++ o.toList)) (fin : ∀ ys e', I [] e' ys → Q ys e') : Wp (lcL own g fc fe ds e []) Q := by
  obtain ⟨ys, e', h1, h2⟩ := lcL_rel (own := own) (g := g) (fc := fc) (fe := fe) I (fun d r e acc hI => (step d r e acc hI).turn) ds e [] (by rw [sizeLine_eq]; simpa using hl) h0
  exact ⟨ys, e', h1, fin ys e' h2⟩
/-! calls -/
theorem wp_call {br : List Bool} {G : List M → RF} {fa : Env → R (List Arg)} {Q : M → Env → Prop}
    (h : Wp (fa e) fun as e1 => (slotsOf as).Nodup ∧ as.map isS = br ∧ ∃ ms, argMs e1 as = some ms ∧ Fw (G ms) fun m os => ∃ e2, putE (clrE e1 (slotsOf as)) (slotsOf as) os = e2 ∧ Q m e2) : Wp (fCall br G fa e) Q := by
  obtain ⟨as, e1, h1, h2, h3, ms, h4, m, os, h5, _, rfl, q⟩ := h
  exact ⟨_, _, call_ok h1 h2 h3 h4 h5, q⟩
theorem wp_call0 {G : List M → RF} {Q : M → Env → Prop} (h : Fw (G []) fun m os => os = [] ∧ Q m e) : Wp (fCall0 [] G e) Q := by
  obtain ⟨m, os, h1, rfl, q⟩ := h
  exact ⟨_, _, call0_ok h1, q⟩
theorem wp_callK {br : List Bool} {G : List M → RF} {n : Nat} {is : List Nat} {fa : Env → R (List Arg)} {Q : M → Env → Prop}
    (h : Wp (fa e) fun as e1 => as.length = n ∧ ∃ as', is.mapM (fun i => as[i]?) = some as' ∧ (slotsOf as').Nodup ∧ as'.map isS = br ∧ ∃ ms, argMs e1 as' = some ms ∧ Fw (G ms) fun m os => ∃ e2, putE (clrE e1 (slotsOf as')) (slotsOf as') os = e2 ∧ Q m e2) : Wp (fCallK br G n is fa e) Q := by
  obtain ⟨as, e1, h1, h2, as', h3, h4, h5, ms, h6, m, os, h7, _, rfl, q⟩ := h
  refine ⟨m, putE (clrE e1 (slotsOf as')) (slotsOf as') os, ?_, q⟩
  unfold fCallK
  rw [h1]
  show (if as.length = n then _ else _) = _
  rw [if_pos h2, h3]
  exact callA_ok h4 h5 h6 h7
theorem fw_run {n size : Nat} {br : List Bool} {f : Env → R Fl} {ms : List M} {env : Env} {Q : M → List M → Prop} (h1 : ms.length = n) (he : ms.map some ++ List.replicate (size - n) none = env)
    (h : Wp (f env) fun fl e => ∃ m os, (fl = .rt m ∨ (fl = .nx ∧ m = .d .none)) ∧ outs br e = some os ∧ Q m os) : Fw (runF n size br f ms) Q := by
  subst he
  obtain ⟨fl, e, h2, m, os, h3, h4, q⟩ := h
  refine ⟨m, os, ?_, q⟩
  rcases h3 with rfl | ⟨rfl, rfl⟩
  · exact runF_rt h1 h2 h4
  · unfold runF
    rw [if_pos h1, h2]
    dsimp only
    rw [h4]
end
end DL
set_option Elab.async false
set_option linter.all false
set_option maxRecDepth 100000
set_option maxHeartbeats 4000000
namespace DL
open PySem PySem.Spec PyProof.Rows L2
/-! ### operations at known data -/
section
variable {i j : Int} {x y : Str} {ds es : List D} {d : D} {e : Env}
theorem qAdd_i : gAdd (.int i) (.int j) = some (.int (i + j)) := rfl
theorem qAdd_s (h : x.length + y.length ≤ 16777216) : gAdd (.str x) (.str y) = some (.str (x ++ y)) := by
  unfold gAdd
  dsimp only
  rw [if_pos (by rw [sizeLine_eq]; exact h)]
theorem qAdd_l (h : ds.length + es.length ≤ 16777216) : gAdd (.list ds) (.list es) = some (.list (ds ++ es)) := by
  unfold gAdd
  dsimp only
  rw [if_pos (by rw [sizeLine_eq]; exact h)]
theorem qAdd_t (h : ds.length + es.length ≤ 16777216) : gAdd (.tuple ds) (.tuple es) = some (.tuple (ds ++ es)) := by
  unfold gAdd
  dsimp only
  rw [if_pos (by rw [sizeLine_eq]; exact h)]
theorem qSub : gSub (.int i) (.int j) = some (.int (i - j)) := rfl
theorem qDiv (h : 0 < j ∧ j.natAbs.log2 < 30) : gDiv (.int i) (.int j) = some (.int (i / j)) := by
  show (if decide (0 < j ∧ j.natAbs.log2 < 30) = true then _ else _) = _
  rw [if_pos (decide_eq_true h)]
theorem qMod (h : 0 < j) : gMod (.int i) (.int j) = some (.int (i % j)) := by
  show (if decide (0 < j) = true then _ else _) = _
  rw [if_pos (decide_eq_true h)]
theorem qMul (h : i.natAbs.log2 < 64 ∨ j.natAbs.log2 < 64) : gMul (.int i) (.int j) = some (.int (i * j)) := by
  show (if _ then _ else _) = _
  rw [if_pos h]
theorem qMulA_i {z : D} (h : gMul (.int i) (.int j) = some z) : gMulA (.int i) (.int j) = some z := h
theorem qMulA_s (h : (2 ≤ j ∧ j ≤ 1000) ∧ (1 ≤ x.length ∧ x.length ≤ 1000) ∧ (repS x j).length ≤ 16777216) : gMulA (.str x) (.int j) = some (.str (repS x j)) := by
  show (if _ then _ else _) = _
  rw [if_pos (by rw [sizeLine_eq]; exact h)]
theorem qMulA_l (h : 0 ≤ j ∧ j ≤ 1000 ∧ ds.length ≤ 1000) : gMulA (.list ds) (.int j) = some (.list (List.replicate j.toNat ds).flatten) := by
  show (if _ then _ else _) = _
  rw [if_pos h]
theorem qLt : gLt (.int i) (.int j) = some (.bool (decide (i < j))) := rfl
theorem qLe : gLe (.int i) (.int j) = some (.bool (decide (i ≤ j))) := rfl
theorem qGt : gGt (.int i) (.int j) = some (.bool (decide (j < i))) := rfl
theorem qGe : gGe (.int i) (.int j) = some (.bool (decide (j ≤ i))) := rfl
theorem qEq_i : gEq (.int i) (.int j) = some (.bool (decide (i = j))) := rfl
theorem qNe_i : gNe (.int i) (.int j) = some (.bool (!decide (i = j))) := rfl
theorem qEq_s : gEq (.str x) (.str y) = some (.bool (decide (x = y))) := rfl
theorem qNe_s : gNe (.str x) (.str y) = some (.bool (!decide (x = y))) := rfl
theorem qLen_s (h : x.length ≤ 16777216) : gLen (.str x) = some (.int (x.length : Nat)) := by
  unfold gLen
  dsimp only
  rw [if_pos (by rw [sizeLine_eq]; exact h)]
theorem qLen_l : gLen (.list ds) = some (.int (ds.length : Nat)) := rfl
theorem qLen_t : gLen (.tuple ds) = some (.int (ds.length : Nat)) := rfl
theorem qIs : gIs d .none = some (.bool (isNonD d)) := by cases d <;> rfl
theorem qIsNot : gIsNot d .none = some (.bool (!isNonD d)) := by cases d <;> rfl
theorem qSl_s {lo hi : Option Int} (h : x.length ≤ 16777216) : gSl (.str x) lo hi = some (.str (cutS x lo hi)) := by
  unfold gSl
  dsimp only
  rw [if_pos (by rw [sizeLine_eq]; exact h)]
theorem qSl_l {lo hi : Option Int} : gSl (.list ds) lo hi = some (.list (cutD ds lo hi)) := rfl
theorem qTup_l : gTupC (.list ds) = some (.tuple ds) := rfl
theorem qTup_t : gTupC (.tuple ds) = some (.tuple ds) := rfl
theorem qItD : itD (.list ds) = some ds := rfl
theorem qItT : itT (.tuple ds) = some ds := rfl
theorem qItS : itS (.str x) = some (x.cps.toList.map sign1) := rfl
theorem qEnum_l : enumD [.d (.list ds)] = some (numL 0 ds) := rfl
theorem qEnum_s : enumD [.d (.str x)] = some (numL 0 (x.cps.toList.map sign1)) := rfl
theorem qRng1 {k : Nat} (h : k ≤ 1000000000) : rng1 [.d (.int (k : Int))] = some (rngL 0 k) := by
  show (if _ then _ else _) = _
  rw [if_pos]
  · rfl
  · show (k : Int).natAbs.log2 < 62
    rw [Int.natAbs_natCast]
    by_cases h0 : k = 0
    · subst h0; decide
    · exact (Nat.log2_lt h0).mpr (Nat.lt_of_le_of_lt h (by decide))
theorem qFmt_s (h : x.length ≤ 16777216) : gFmt (.str x) = some (.str x) := by
  unfold gFmt
  dsimp only
  rw [if_pos (by rw [sizeLine_eq]; exact h)]
theorem qG2 {f : Int → Int → Int} : g2I f [.d (.int i), .d (.int j)] = some (.int (f i j)) := rfl
theorem qNeg : gNeg (.int i) = some (.int (-i)) := rfl
theorem argMs_nil : argMs e [] = some [] := rfl
theorem argMs_d {r : List Arg} {ms : List M} (h : argMs e r = some ms) : argMs e (.d d :: r) = some (.d d :: ms) := by rw [argMs, h]; rfl
theorem argMs_s {k : Nat} {m : M} {r : List Arg} {ms : List M} (h0 : slot e k = some m) (h : argMs e r = some ms) : argMs e (.s k :: r) = some (m :: ms) := by rw [argMs, h0]; dsimp only; rw [h]; rfl
theorem argD_nil : argD [] = some [] := rfl
theorem argD_d {r : List Arg} (h : argD r = some ds) : argD (.d d :: r) = some (d :: ds) := by rw [argD, h]; rfl
theorem len_nil : ([] : List D).length ≤ 16777216 := Nat.zero_le _
theorem arg_go {as : List Arg} {br : List Bool} {ms : List M} {P : List M → Prop} (h1 : (slotsOf as).Nodup) (h2 : as.map isS = br) (h3 : argMs e as = some ms) (h : P ms) : (slotsOf as).Nodup ∧ as.map isS = br ∧ ∃ ms, argMs e as = some ms ∧ P ms := ⟨h1, h2, ms, h3, h⟩
theorem argk_go {as as' : List Arg} {n : Nat} {is : List Nat} {br : List Bool} {ms : List M} {P : List Arg → List M → Prop} (h1 : as.length = n) (h2 : is.mapM (fun i => as[i]?) = some as') (h3 : (slotsOf as').Nodup) (h4 : as'.map isS = br) (h5 : argMs e as' = some ms) (h : P as' ms) :
    as.length = n ∧ ∃ as', is.mapM (fun i => as[i]?) = some as' ∧ (slotsOf as').Nodup ∧ as'.map isS = br ∧ ∃ ms, argMs e as' = some ms ∧ P as' ms := ⟨h1, as', h2, h3, h4, ms, h5, h⟩
theorem mapk_nil {α : Type} {f : Nat → Option α} : ([] : List Nat).mapM f = some [] := rfl
theorem mapk_cons {α : Type} {f : Nat → Option α} {k : Nat} {ks : List Nat} {a : α} {as : List α} (h : f k = some a) (hs : ks.mapM f = some as) : (k :: ks).mapM f = some (a :: as) := by
  rw [List.mapM_cons, h, hs]
  rfl
theorem dis_go {as : List Arg} {P : List D → Prop} (h1 : argD as = some ds) (h2 : ds.length ≤ 16777216) (h : P ds) : ∃ ds, argD as = some ds ∧ ds.length ≤ 16777216 ∧ P ds := ⟨ds, h1, h2, h⟩
theorem par_go {x y : D} {P : D → D → Prop} (h : P x y) : ∃ x' y', ([.d x, .d y] : List Arg) = [.d x', .d y'] ∧ P x' y' := ⟨x, y, rfl, h⟩
theorem lt_go {own : List Nat} {g : D → Env → Option Env} {fc : Env → R Bool} {fe : Env → R D} {e1 : Env} {Q : Option D → Env → Prop} (h1 : g d e = some e1) (h : Wp (fc e1) fun b e2 => Way b (Wp (fe e2) fun y e3 => ∃ e4, wipeE e3 own = e4 ∧ Q (some y) e4) (∃ e4, wipeE e2 own = e4 ∧ Q none e4)) :
    Lt own g fc fe d e Q := ⟨e1, h1, h⟩
theorem way_nonT {p q : Prop} (h : p) : Way (isNonD .none) p q := way_t rfl h
theorem way_nonI {i : Int} {p q : Prop} (h : q) : Way (isNonD (.int i)) p q := way_f rfl h
theorem way_nonS {p q : Prop} (h : q) : Way (isNonD (.str x)) p q := way_f rfl h
theorem way_nonU {p q : Prop} (h : q) : Way (isNonD (.tuple ds)) p q := way_f rfl h
theorem way_nonL {p q : Prop} (h : q) : Way (isNonD (.list ds)) p q := way_f rfl h
theorem way_nonB {b : Bool} {p q : Prop} (h : q) : Way (isNonD (.bool b)) p q := way_f rfl h
theorem qNe_t (h1 : SeqAt.shaped (.tuple ds) = true) (h2 : SeqAt.shaped (.tuple es) = true) : gNe (.tuple ds) (.tuple es) = some (.bool (!PyData.eqv (.tuple ds) (.tuple es))) := by
  show Option.map _ (if _ then _ else _) = _
  rw [if_pos ⟨h1, h2⟩]
  rfl
theorem qEq_t (h1 : SeqAt.shaped (.tuple ds) = true) (h2 : SeqAt.shaped (.tuple es) = true) : gEq (.tuple ds) (.tuple es) = some (.bool (PyData.eqv (.tuple ds) (.tuple es))) := by
  show Option.map _ (if _ then _ else _) = _
  rw [if_pos ⟨h1, h2⟩]
  rfl
theorem qNe_l (h1 : SeqAt.shaped (.list ds) = true) (h2 : SeqAt.shaped (.list es) = true) : gNe (.list ds) (.list es) = some (.bool (!PyData.eqv (.list ds) (.list es))) := by
  show Option.map _ (if _ then _ else _) = _
  rw [if_pos ⟨h1, h2⟩]
  rfl
theorem qEq_l (h1 : SeqAt.shaped (.list ds) = true) (h2 : SeqAt.shaped (.list es) = true) : gEq (.list ds) (.list es) = some (.bool (PyData.eqv (.list ds) (.list es))) := by
  show Option.map _ (if _ then _ else _) = _
  rw [if_pos ⟨h1, h2⟩]
  rfl
theorem ret_go {br : List Bool} {m : M} {os : List M} {P : M → List M → Prop} (h : outs br e = some os) (p : P m os) : ∃ m' os', (Fl.rt m = .rt m' ∨ (Fl.rt m = .nx ∧ m' = .d .none)) ∧ outs br e = some os' ∧ P m' os' := ⟨m, os, .inl rfl, h, p⟩
theorem ret_nx {br : List Bool} {os : List M} {P : M → List M → Prop} (h : outs br e = some os) (p : P (.d .none) os) : ∃ m' os', (Fl.nx = .rt m' ∨ (Fl.nx = .nx ∧ m' = .d .none)) ∧ outs br e = some os' ∧ P m' os' := ⟨_, os, .inr ⟨rfl, rfl⟩, h, p⟩
theorem lf_ix {a b z : D} {Q : D → Prop} (h : gIx a b = some z) (q : Q z) : Lf (gIx a b) Q := ⟨z, h, q⟩
theorem tgt_go {o : Option Env} {e1 : Env} {P : Env → Prop} (h1 : o = some e1) (h : P e1) : ∃ e1, o = some e1 ∧ P e1 := ⟨e1, h1, h⟩
def contF (k : Env → R Fl) : Fl → Env → R Fl
  | .nx, e => k e
  | .ct, e => k e
  | .bk, e => .ok .nx e
  | .rt m, e => .ok (.rt m) e
theorem wp_cont_nx {k : Env → R Fl} {e e' : Env} {Q : Fl → Env → Prop} (he : e = e') (h : Wp (k e') Q) : Wp (contF k .nx e) Q := by subst he; exact h
theorem wp_cont_ct {k : Env → R Fl} {e e' : Env} {Q : Fl → Env → Prop} (he : e = e') (h : Wp (k e') Q) : Wp (contF k .ct e) Q := by subst he; exact h
theorem wp_cont_bk {k : Env → R Fl} {e e' : Env} {Q : Fl → Env → Prop} (he : e = e') (h : Q .nx e') : Wp (contF k .bk e) Q := by subst he; exact ⟨_, _, rfl, h⟩
theorem wp_cont_rt {k : Env → R Fl} {m : M} {Q : Fl → Env → Prop} (h : Q (.rt m) e) : Wp (contF k (.rt m) e) Q := ⟨_, _, rfl, h⟩
theorem wp_forL_nil {g : D → Env → Option Env} {b : Env → R Fl} {Q : Fl → Env → Prop} (h : Q .nx e) : Wp (forL g b [] e) Q := ⟨_, _, rfl, h⟩
theorem wp_forL_cons {g : D → Env → Option Env} {b : Env → R Fl} {r : List D} {e1 : Env} {Q : Fl → Env → Prop} (h : g d e = some e1) (k : Wp (b e1) fun fl e2 => Wp (contF (forL g b r) fl e2) Q) : Wp (forL g b (d :: r) e) Q := by
  obtain ⟨fl, e2, h2, h3⟩ := k
  have : forL g b (d :: r) e = contF (forL g b r) fl e2 := by
    conv => lhs; unfold forL
    rw [h]
    dsimp only
    rw [h2]
    cases fl <;> rfl
  rw [this]
  exact h3
theorem wp_id {α : Type} {r : R α} {Q : α → Env → Prop} (h : Wp r Q) : Wp r Q := h
theorem wp_idD {r : R D} {Q : D → Env → Prop} (h : Wp r Q) : Wp r Q := h
theorem wp_idA {r : R (List Arg)} {Q : List Arg → Env → Prop} (h : Wp r Q) : Wp r Q := h
theorem wp_idF {r : R Fl} {Q : Fl → Env → Prop} (h : Wp r Q) : Wp r Q := h
theorem wp_idB {r : R Bool} {Q : Bool → Env → Prop} (h : Wp r Q) : Wp r Q := h
theorem wp_idM {r : R M} {Q : M → Env → Prop} (h : Wp r Q) : Wp r Q := h
theorem lf_id {α : Type} {o : Option α} {Q : α → Prop} (h : Lf o Q) : Lf o Q := h
theorem way_id {b : Bool} {p q : Prop} (h : Way b p q) : Way b p q := h
theorem wp_isB {b : Bool} {P : Bool → Prop} (h : P b) : ∃ c, PyData.bool b = .bool c ∧ P c := ⟨b, rfl, h⟩
/-- what comes behind a statement is hidden while it runs -/
theorem wp_seqG {f g : Env → R Fl} {Q : Fl → Env → Prop} (h : ∀ G : Env → R Fl, G = g → Wp (f e) fun fl e1 => Wp (thenF G fl e1) Q) : Wp (fSeq f g e) Q := wp_seq (h g rfl)
theorem wp_then_nxG {G g : Env → R Fl} {e e' : Env} {Q : Fl → Env → Prop} (hG : G = g) (he : e = e') (h : Wp (g e') Q) : Wp (thenF G .nx e) Q := by subst hG; subst he; exact h
/-- statement by statement: the slots in their plain form -/
theorem wp_then_nxE {g : Env → R Fl} {e e' : Env} {Q : Fl → Env → Prop} (he : e = e') (h : Wp (g e') Q) : Wp (thenF g .nx e) Q := by subst he; exact h
theorem wp_env {α : Type} {f : Env → R α} {e e' : Env} {Q : α → Env → Prop} (he : e = e') (h : Wp (f e') Q) : Wp (f e) Q := by subst he; exact h
end
end DL
set_option Elab.async false
set_option linter.all false
set_option maxRecDepth 100000
set_option maxHeartbeats 4000000
namespace DL
open PySem PySem.Spec PyProof.Rows L2
/-! ### data that repr takes, with the room it asks -/
structure Rs (d : D) (k n : Nat) : Prop where
  lay : PyData.canLay0 d = true
  sh : d.showable = true
  dep : d.depth ≤ k
  len : d.shown.length ≤ n
structure Rss (ds : List D) (k n : Nat) : Prop where
  lay : PyData.canLayAll0 ds = true
  sh : PyData.showableAll ds = true
  dep : PyData.depthAll ds ≤ k
  len : piled (PyData.shownAll ds) ≤ n
theorem Rs.mono {d : D} {k n k' n' : Nat} (h : Rs d k n) (hk : k ≤ k') (hn : n ≤ n') : Rs d k' n' := ⟨h.lay, h.sh, Nat.le_trans h.dep hk, Nat.le_trans h.len hn⟩
theorem qRepr {d : D} {k n : Nat} (h : Rs d k n) (hk : k ≤ 60) (hn : n ≤ 16777216) : gRepr d = some (.str d.shown) := by
  unfold gRepr
  rw [if_pos ⟨h.lay, h.sh, Nat.le_trans h.dep hk, by rw [sizeLine_eq]; exact Nat.le_trans h.len hn⟩]
theorem rs_none : Rs .none 0 4 := ⟨rfl, rfl, by simp [PyData.depth], by rw [PyData.shown_none]; decide⟩
theorem rs_int {i : Int} {k : Nat} (h0 : 0 ≤ i) (h : i < 10 ^ 18) : Rs (.int i) 0 18 := by
  obtain ⟨n, rfl⟩ := Int.eq_ofNat_of_zero_le h0
  have hn : n < 10 ^ 18 := by omega
  refine ⟨rfl, ?_, by simp [PyData.depth], ?_⟩
  · simp only [PyData.showable]
    refine decide_eq_true ?_
    show (n : Int).natAbs.log2 < 1920
    rw [Int.natAbs_natCast]
    by_cases e : n = 0
    · subst e; decide
    · exact Nat.lt_trans ((Nat.log2_lt e).mpr (Nat.lt_trans hn (by decide) : n < 2 ^ 60)) (by decide)
  · rw [PyData.shown_int]
    show (Str.ofString (toString (n : Int))).length ≤ 18
    have e : (Str.ofString (toString (n : Int))).cps.toList = (Nat.toDigits 10 n).map Char.toNat := PySem.W.KIN.signs_num n
    have l : (Str.ofString (toString (n : Int))).length = (Str.ofString (toString (n : Int))).cps.toList.length := by simp [Str.length]
    rw [l, e, List.length_map]
    exact digits10_le (by decide) hn
theorem rs_str {x : Str} (h : ∀ c ∈ x.cps.toList, c < 0x110000) : Rs (.str x) 0 (10 * x.length + 2) := by
  refine ⟨?_, rfl, by simp [PyData.depth], ?_⟩
  · simp only [PyData.canLay0]
    unfold PyData.strOk
    rw [Array.all_eq_true']
    intro c hc
    exact decide_eq_true (h c (by simpa using hc))
  · rw [PyData.shown_str]
    exact PySem.StrLaws.reprText_len x fun c hc => Nat.lt_trans (h c hc) (by decide)
theorem rss_nil : Rss [] 0 0 := ⟨rfl, rfl, by simp [PyData.depthAll], by rw [PyData.shownAll_nil]; exact Nat.le_refl _⟩
theorem rss_cons {d : D} {ds : List D} {k n k' n' : Nat} (h : Rs d k n) (hs : Rss ds k' n') : Rss (d :: ds) (max k k') (n + 2 + n') := by
  refine ⟨?_, ?_, ?_, ?_⟩
  · simp only [PyData.canLayAll0, h.lay, hs.lay, Bool.and_self]
  · simp only [PyData.showableAll, h.sh, hs.sh, Bool.and_self]
  · have := h.dep
    have := hs.dep
    simp only [PyData.depthAll]
    omega
  · rw [PyData.shownAll_cons, piled_cons]
    have := h.len
    have := hs.len
    omega
theorem strLen_app (x y : Str) : (x ++ y).length = x.length + y.length := by
  show (x.cps ++ y.cps).size = _
  rw [Array.size_append]
  rfl
theorem join_le (ts : List Str) : (Str.join ", " ts).length ≤ piled ts := by
  cases ts with
  | nil => exact Nat.le_refl _
  | cons t ts =>
    have := join_length_add (t :: ts) (by simp)
    omega
theorem rs_list {ds : List D} {k n : Nat} (h : Rss ds k n) : Rs (.list ds) (k + 1) (n + 4) := by
  refine ⟨by simp only [PyData.canLay0]; exact h.lay, by simp only [PyData.showable]; exact h.sh, ?_, ?_⟩
  · have := h.dep
    simp only [PyData.depth]
    omega
  · have := h.len
    have := join_le (PyData.shownAll ds)
    rw [PyData.shown_list, strLen_app, strLen_app]
    have e1 : (("[" : String) : Str).length = 1 := by decide
    have e2 : (("]" : String) : Str).length = 1 := by decide
    omega
theorem rs_tuple {ds : List D} {k n : Nat} (h : Rss ds k n) : Rs (.tuple ds) (k + 1) (n + 4) := by
  refine ⟨by simp only [PyData.canLay0]; exact h.lay, by simp only [PyData.showable]; exact h.sh, ?_, ?_⟩
  · have := h.dep
    simp only [PyData.depth]
    omega
  · have := h.len
    have := join_le (PyData.shownAll ds)
    rw [PyData.shown_tuple, strLen_app, strLen_app]
    have e1 : (("(" : String) : Str).length = 1 := by decide
    have e2 : (((if ds.length == 1 then ",)" else ")" : String) : Str)).length ≤ 2 := by split <;> decide
    omega
end DL
set_option Elab.async false
set_option linter.all false
set_option maxRecDepth 100000
set_option maxHeartbeats 4000000
namespace DL
open PySem PySem.Spec PyProof.Rows L2
/-! ### the end, with facts by names -/
theorem walk_gE {l : PySem.W.OpenLaw} {n k : Nat} {q : Program} {loose : List Str} {XP : (Str → Option Value) → Heap → Prop} {YP : World → Heap → Prop} {d : DefRec} {G : List M → RF} {x : Str}
    (hn : l.most = some n) (hn2 : n ≤ sizeLine) (hdf : d.params.defaults = []) (hr : Room k callerA) (L : LawD n G)
    (F : ∀ (w : World) (mg : Str → Option Value) (fa : Addr) (h : Heap), YP w h → h.Ns mainGlobals mg → mg d.name = some (.ref fa) →
      ∃ (K : PySem.W.Frag) (fd : FuncData), K.In h ∧ (∀ (s : Shared) (u : Value), BindsTo s fd ⟨[u], []⟩ [(x, u)]) ∧
        ∀ base : Heap, K.In base → base.Ns mainGlobals mg → FnG l.prog w K mg base (L2.CX l.prog w) k fa fd [x] (spD K mg 1 [false] G)) :
    PySem.W.WalkO q loose XP YP l.row.toRowW d [] (fun f vs => PySem.call f vs) := by
  apply Att.attach_call hn hdf
  intro w s0 s1 mg mb fa o pm cd doc a vs ns ground Y ho hd hcd hmg hobj hin hlen hg
  obtain ⟨K, fd, KX, hb, hF⟩ := F w mg fa _ Y ground.T.g hmg
  have rv := vals_ints hin
  have hz : ns.length ≤ sizeLine := Nat.le_trans hlen hn2
  cases hk : K.lookup a with
  | some o2 =>
    have e := KX a o2 hk
    rw [hobj] at e
    cases e
    have hS : SqL K (fun _ => none) a (ns.map V.int) := .inr ⟨_, vs.toArray, _, hk, rfl, rfl, rfl, by rw [List.size_toArray, hin.length]; exact hz, by simpa using rv⟩
    exact head_at KX ground.T.g ground.T.b ground.T.builtins ground.T.nolimit hg hobj hr hF hb (fun _ => none) (fun _ => .inl rfl) (fun b u z => by cases (show (none : Option HO) = some u from z)) (fun b z => absurd rfl z) (sp_law L hlen hS)
  | none =>
    let H : Hp := fun b => if b = a then some (.frz { cls := .type "list", data := .seq vs.toArray } (.lst (ns.map V.int))) else none
    have h1 : H a = some (.frz { cls := .type "list", data := .seq vs.toArray } (.lst (ns.map V.int))) := if_pos rfl
    have h2 : ∀ b, b ≠ a → H b = none := fun b hb => if_neg hb
    refine head_at KX ground.T.g ground.T.b ground.T.builtins ground.T.nolimit hg hobj hr hF hb H (fun b => ?_) (fun b u z => ?_) (fun b z => ⟨Classical.byContradiction fun e => z (h2 b e), hk⟩) (sp_law L hlen (.inl (.inr ⟨_, h1⟩)))
    · by_cases hb : b = a
      · subst hb
        exact .inr ⟨_, _, h1⟩
      · exact .inl (h2 b hb)
    · by_cases hb : b = a
      · subst hb
        rw [h1] at z
        cases z
        exact ⟨hobj, by rw [List.length_map]; exact hz, vs, _, rv, hobj⟩
      · rw [h2 b hb] at z
        cases z
section
variable {K : PySem.W.Frag} {h : Heap} {mg : Str → Option Value}
theorem gc_int (X : K.In h) (G : h.Ns mainGlobals mg) {x : Str} {i : Int} (c : (He.Fa.int x i).ok K = true) : GC mg x (.int i) := by
  obtain ⟨t, e⟩ := He.int_ok X G c
  exact ⟨_, e, t, rfl⟩
theorem gc_str (X : K.In h) (G : h.Ns mainGlobals mg) {x z : Str} (c : (He.Fa.str x z).ok K = true) : GC mg x (.str z) := by
  obtain ⟨t, e⟩ := He.str_ok X G c
  exact ⟨_, e, t, rfl⟩
end
end DL
set_option Elab.async false
set_option linter.all false
set_option maxRecDepth 100000
set_option maxHeartbeats 4000000
namespace DL.K77
open PySem PySem.Spec PyProof.Rows L2
def topS (i : Nat) : Stmt := PySem.Challenge.pw_onelinekept_k77_halves_bear_place_number.main.body.getD i (.Pass ⟨0, 0, 0, 0⟩)
abbrev s_half_sum : Stmt := topS 5
theorem sc_half_sum : FnScope ["text", "at", "sign"] ["text"] (defScope s_half_sum) := ⟨rfl, rfl, rfl, by decide +kernel, rfl, by decide +kernel, by decide +kernel⟩
abbrev b_half_sum : List Bool := [false]
def d_half_sum : Env → R Fl := (fRet (fUp (f2 gMod (f1 gSum (fFrz (fLc [1, 2] (fItA enumD (fConsA (fVar 0) fNilA)) (gT (gCons (gN 1) (gCons (gN 2) gNil))) fYes (f2 gMul (f2 gAdd (fVar 1) (fC (.int 1))) (f1 gOrd (fVar 2)))))) (fC (.int 999983)))))
def F_half_sum : List M → RF := runF (["text"] : List Str).length (["text", "at", "sign"] : List Str).length b_half_sum d_half_sum
abbrev s_sides_of : Stmt := topS 6
theorem sc_sides_of : FnScope ["body", "middle"] ["body"] (defScope s_sides_of) := ⟨rfl, rfl, rfl, by decide +kernel, rfl, by decide +kernel, by decide +kernel⟩
abbrev b_sides_of : List Bool := [false]
def d_sides_of : Env → R Fl := (fSeq (fSetV 1 (f2 gDiv (f2 gAdd (f1 gLen (fVar 0)) (fC (.int 1))) (fC (.int 2)))) (fRet (fUp (fTup (fConsA (fSl (fVar 0) fNoPart (fPart (fVar 1))) (fConsA (fSl (fVar 0) (fPart (fVar 1)) fNoPart) fNilA))))))
def F_sides_of : List M → RF := runF (["body"] : List Str).length (["body", "middle"] : List Str).length b_sides_of d_sides_of
abbrev s_half_text : Stmt := topS 7
theorem sc_half_text : FnScope ["name", "page", "side", "number", "part", "rest"] ["name", "page", "side", "number", "part"] (defScope s_half_text) := ⟨rfl, rfl, rfl, by decide +kernel, rfl, by decide +kernel, by decide +kernel⟩
abbrev b_half_text : List Bool := [false, false, false, false, false]
def d_half_text : Env → R Fl := (fSeq (fSetV 5 (fJoined (fJ (f1 gFmt (fVar 0)) (fJ (fC (.str (" " : Str))) (fJ (f1 gFmt (fVar 1)) (fJ (fC (.str (" " : Str))) (fJ (f1 gFmt (fVar 2)) (fJ (fC (.str (" " : Str))) (fJ (f1 gFmt (fVar 3)) (fJ (fC (.str (" " : Str))) (fJ (f1 gFmt (fVar 4)) fJ0))))))))))) (fRet (fUp (fJoined (fJ (f1 gFmt6 (fFrz (fCall b_half_sum F_half_sum (fConsA (fVar 5) fNilA)))) (fJ (fC (.str (" " : Str))) (fJ (f1 gFmt (fVar 5)) fJ0)))))))
def F_half_text : List M → RF := runF (["name", "page", "side", "number", "part"] : List Str).length (["name", "page", "side", "number", "part", "rest"] : List Str).length b_half_text d_half_text
abbrev s_is_figures : Stmt := topS 8
theorem sc_is_figures : FnScope ["text", "sign"] ["text"] (defScope s_is_figures) := ⟨rfl, rfl, rfl, by decide +kernel, rfl, by decide +kernel, by decide +kernel⟩
abbrev b_is_figures : List Bool := [false]
def d_is_figures : Env → R Fl := (fSeq (fIf (fOr (fB (f2 gEq (fVar 0) (fC (.str ("" : Str))))) (fOr (fB (f2 gGt (f1 gLen (fVar 0)) (fC (.int 12)))) (fB (f2 gEq (f2 gIx (fVar 0) (fC (.int 0))) (fC (.str ("0" : Str))))))) (fRet (fUp (fC (.bool false)))) fNx) (fRet (fUp (f1 gAll (fFrz (fLc [1] (fIt itS (fVar 0)) (gN 1) fYes (f2 gIn (fVar 1) (fC (.str ("0123456789" : Str))))))))))
def F_is_figures : List M → RF := runF (["text"] : List Str).length (["text", "sign"] : List Str).length b_is_figures d_is_figures
abbrev s_read_half : Stmt := topS 9
theorem sc_read_half : FnScope ["name", "page", "side", "text", "rest", "head", "number", "blank", "part"] ["name", "page", "side", "text"] (defScope s_read_half) := ⟨rfl, rfl, rfl, by decide +kernel, rfl, by decide +kernel, by decide +kernel⟩
abbrev b_read_half : List Bool := [false, false, false, false]
def d_read_half : Env → R Fl := (fSeq (fIf (fB (f2 gEq (fVar 3) (fC (.str ("" : Str))))) (fRet (fUp (fTup (fConsA (fC (.int 0)) (fConsA (fC (.str ("" : Str))) fNilA))))) fNx) (fSeq (fPar 4 5 (fConsA (fSl (fVar 3) (fPart (fC (.int 7))) fNoPart) (fConsA (fJoined (fJ (f1 gFmt (fVar 0)) (fJ (fC (.str (" " : Str))) (fJ (f1 gFmt (fVar 1)) (fJ (fC (.str (" " : Str))) (fJ (f1 gFmt (fVar 2)) (fJ (fC (.str (" " : Str))) fJ0))))))) fNilA))) (fSeq (fIf (fOr (fB (f2 gNe (fSl (fVar 3) fNoPart (fPart (fC (.int 7)))) (fJoined (fJ (f1 gFmt6 (fFrz (fCall b_half_sum F_half_sum (fConsA (fVar 4) fNilA)))) (fJ (fC (.str (" " : Str))) fJ0))))) (fNot (fB (f2S gStarts (fVar 4) (fVar 5))))) (fRet (fUp (fC PyData.none))) fNx) (fSeq (fAsg (f2S gPart (fSl (fVar 4) (fPart (f1 gLen (fVar 5))) fNoPart) (fC (.str (" " : Str)))) (gT (gCons (gN 6) (gCons (gN 7) (gCons (gN 8) gNil))))) (fSeq (fIf (fOr (fB (f2 gEq (fVar 7) (fC (.str ("" : Str))))) (fNot (fB (fFrz (fCall b_is_figures F_is_figures (fConsA (fVar 6) fNilA)))))) (fRet (fUp (fC PyData.none))) fNx) (fRet (fUp (fTup (fConsA (f1 gInt (fVar 6)) (fConsA (fVar 8) fNilA))))))))))
def F_read_half : List M → RF := runF (["name", "page", "side", "text"] : List Str).length (["name", "page", "side", "text", "rest", "head", "number", "blank", "part"] : List Str).length b_read_half d_read_half
abbrev s_page_texts : Stmt := topS 10
theorem sc_page_texts : FnScope ["name", "page", "number", "body", "first", "second"] ["name", "page", "number", "body"] (defScope s_page_texts) := ⟨rfl, rfl, rfl, by decide +kernel, rfl, by decide +kernel, by decide +kernel⟩
abbrev b_page_texts : List Bool := [false, false, false, false]
def d_page_texts : Env → R Fl := (fSeq (fAsg (fFrz (fCall b_sides_of F_sides_of (fConsA (fVar 3) fNilA))) (gT (gCons (gN 4) (gCons (gN 5) gNil)))) (fRet (fUp (fTup (fConsA (fFrz (fCall b_half_text F_half_text (fConsA (fVar 0) (fConsA (fVar 1) (fConsA (fC (.int 0)) (fConsA (fVar 2) (fConsA (fVar 4) fNilA))))))) (fConsA (fFrz (fCall b_half_text F_half_text (fConsA (fVar 0) (fConsA (fVar 1) (fConsA (fC (.int 1)) (fConsA (fVar 2) (fConsA (fVar 5) fNilA))))))) fNilA))))))
def F_page_texts : List M → RF := runF (["name", "page", "number", "body"] : List Str).length (["name", "page", "number", "body", "first", "second"] : List Str).length b_page_texts d_page_texts
abbrev s_state_of_halves : Stmt := topS 11
theorem sc_state_of_halves : FnScope ["name", "page", "left", "right", "found", "bent", "side", "half"] ["name", "page", "left", "right"] (defScope s_state_of_halves) := ⟨rfl, rfl, rfl, by decide +kernel, rfl, by decide +kernel, by decide +kernel⟩
abbrev b_state_of_halves : List Bool := [false, false, false, false]
def d_state_of_halves : Env → R Fl := (fSeq (fSetV 4 (fLst (fConsA (fFrz (fCall b_read_half F_read_half (fConsA (fVar 0) (fConsA (fVar 1) (fConsA (fC (.int 0)) (fConsA (fVar 2) fNilA)))))) (fConsA (fFrz (fCall b_read_half F_read_half (fConsA (fVar 0) (fConsA (fVar 1) (fConsA (fC (.int 1)) (fConsA (fVar 3) fNilA)))))) fNilA)))) (fSeq (fSetV 5 (f1 gTupC (fFrz (fLc [6, 7] (fItA enumD (fConsA (fVar 4) fNilA)) (gT (gCons (gN 6) (gCons (gN 7) gNil))) (fB (f2 gIs (fVar 7) (fC PyData.none))) (fVar 6))))) (fSeq (fIf (fB (f2 gNe (fVar 5) (fTup fNilA))) (fRet (fUp (fTup (fConsA (fC (.str ("bent" : Str))) (fConsA (fVar 5) fNilA))))) fNx) (fSeq (fIf (fB (f2 gNe (f2 gIx (f2 gIx (fVar 4) (fC (.int 0))) (fC (.int 0))) (f2 gIx (f2 gIx (fVar 4) (fC (.int 1))) (fC (.int 0))))) (fRet (fUp (fTup (fConsA (fC (.str ("torn" : Str))) (fConsA (f2 gIx (f2 gIx (fVar 4) (fC (.int 0))) (fC (.int 0))) (fConsA (f2 gIx (f2 gIx (fVar 4) (fC (.int 1))) (fC (.int 0))) fNilA)))))) fNx) (fSeq (fIf (fB (f2 gEq (f2 gIx (f2 gIx (fVar 4) (fC (.int 0))) (fC (.int 0))) (fC (.int 0)))) (fRet (fUp (fTup (fConsA (fC (.str ("blank" : Str))) fNilA)))) fNx) (fRet (fUp (fTup (fConsA (fC (.str ("whole" : Str))) (fConsA (f2 gIx (f2 gIx (fVar 4) (fC (.int 0))) (fC (.int 0))) (fConsA (f2 gAdd (f2 gIx (f2 gIx (fVar 4) (fC (.int 0))) (fC (.int 1))) (f2 gIx (f2 gIx (fVar 4) (fC (.int 1))) (fC (.int 1)))) fNilA)))))))))))
def F_state_of_halves : List M → RF := runF (["name", "page", "left", "right"] : List Str).length (["name", "page", "left", "right", "found", "bent", "side", "half"] : List Str).length b_state_of_halves d_state_of_halves
abbrev s__law_begun : Stmt := topS 13
theorem sc__law_begun : FnScope ["script", "great", "cell"] ["script"] (defScope s__law_begun) := ⟨rfl, rfl, rfl, by decide +kernel, rfl, by decide +kernel, by decide +kernel⟩
abbrev b__law_begun : List Bool := [false]
def d__law_begun : Env → R Fl := (fSeq (fSetM 1 (fLc [2] (fIt itD (fVar 0)) (gN 2) (fB (f2 gGe (f1 gAbs (fVar 2)) (f2 gPow (fC (.int 10)) (fC (.int 18))))) (f2 gSub (f1 gAbs (fVar 2)) (f2 gPow (fC (.int 10)) (fC (.int 18)))))) (fRet (fDct (fPs (.inr ("great" : Str)) (fMove 1) (fPs (.inr ("cells" : Str)) (fUp (fFrz (fLc [2] (fIt itD (fVar 0)) (gN 2) fYes (f1 gAbs (fVar 2))))) (fPs (.inr ("left" : Str)) (fUp (fC (.int 0))) (fPs (.inr ("turn" : Str)) (fUp (fC (.int 0))) fPs0)))))))
def F__law_begun : List M → RF := runF (["script"] : List Str).length (["script", "great", "cell"] : List Str).length b__law_begun d__law_begun
abbrev s__law_blended : Stmt := topS 14
theorem sc__law_blended : FnScope ["state", "turn", "found", "prime", "blend", "cell"] ["state"] (defScope s__law_blended) := ⟨rfl, rfl, rfl, by decide +kernel, rfl, by decide +kernel, by decide +kernel⟩
abbrev b__law_blended : List Bool := [true]
def d__law_blended : Env → R Fl := (fSeq (fPar 1 2 (fConsA (f2 gAdd (fPthD 0 [.inr ("turn" : Str)]) (fC (.int 1))) (fConsA (fC (.int 0)) fNilA))) (fSeq (fPutK 0 [] (.inr ("turn" : Str)) (fUp (fVar 1))) (fSeq (fFor (fIt itD (fLst (fConsA (fC (.int 2147481949)) (fConsA (fC (.int 2147481937)) (fConsA (fC (.int 2147481907)) fNilA))))) (gN 3) (fSeq (fSetV 4 (f2 gAdd (f2 gMul (fC (.int 41491)) (fVar 1)) (f2 gDiv (fVar 3) (fC (.int 71))))) (fSeq (fFor (fIt itD (fPthD 0 [.inr ("cells" : Str)])) (gN 5) (fSetV 4 (f2 gMod (f1 gInt (f2 gAdd (f2 gAdd (f2 gMul (fVar 4) (fC (.int 68909))) (fVar 5)) (fVar 1))) (fVar 3)))) (fSetV 2 (f2 gAdd (f2 gMul (fVar 2) (fC (.int 2147483647))) (f2 gMod (f1 gInt (f2 gPow (fVar 4) (fC (.int 5)))) (fVar 3))))))) (fRet (fUp (fVar 2))))))
def F__law_blended : List M → RF := runF (["state"] : List Str).length (["state", "turn", "found", "prime", "blend", "cell"] : List Str).length b__law_blended d__law_blended
abbrev s__law_draw : Stmt := topS 15
theorem sc__law_draw : FnScope ["state", "size_here", "found"] ["state", "size_here"] (defScope s__law_draw) := ⟨rfl, rfl, rfl, by decide +kernel, rfl, by decide +kernel, by decide +kernel⟩
abbrev b__law_draw : List Bool := [true, false]
def d__law_draw : Env → R Fl := (fSeq (fIf (fB (f2 gEq (fPthD 0 [.inr ("left" : Str)]) (fC (.int 0)))) (fPutK 0 [] (.inr ("left" : Str)) (fUp (fIf (fB (fNil2 gNe (fPthB 0 [.inr ("great" : Str)]))) (fFrz (fPop0 0 [.inr ("great" : Str)])) (fFrz (fCall b__law_blended F__law_blended (fSlotA 0 fNilA)))))) fNx) (fSeq (fSetV 2 (f2 gMod (f1 gInt (fPthB 0 [.inr ("left" : Str)])) (fVar 1))) (fSeq (fPutK 0 [] (.inr ("left" : Str)) (fUp (f2 gDiv (fPthD 0 [.inr ("left" : Str)]) (fVar 1)))) (fRet (fUp (fVar 2))))))
def F__law_draw : List M → RF := runF (["state", "size_here"] : List Str).length (["state", "size_here", "found"] : List Str).length b__law_draw d__law_draw
abbrev s__law_pick : Stmt := topS 16
theorem sc__law_pick : FnScope ["state", "several"] ["state", "several"] (defScope s__law_pick) := ⟨rfl, rfl, rfl, by decide +kernel, rfl, by decide +kernel, by decide +kernel⟩
abbrev b__law_pick : List Bool := [true, false]
def d__law_pick : Env → R Fl := (fRet (fUp (f2 gIx (fVar 1) (fFrz (fCall b__law_draw F__law_draw (fSlotA 0 (fConsA (f1 gLen (fVar 1)) fNilA)))))))
def F__law_pick : List M → RF := runF (["state", "several"] : List Str).length (["state", "several"] : List Str).length b__law_pick d__law_pick
abbrev s__law_dk_signs : Stmt := topS 17
theorem sc__law_dk_signs : FnScope [] [] (defScope s__law_dk_signs) := ⟨rfl, rfl, rfl, by decide +kernel, rfl, by decide +kernel, by decide +kernel⟩
abbrev b__law_dk_signs : List Bool := []
def d__law_dk_signs : Env → R Fl := (fRet (fUp (fC (.str (" !\"#$&'()*+,-./0123456789:;<=>?@ABCDEFGHIJKLMNOPQRSTUVWXYZ[\\]^_`abcdefghijklmnopqrstuvwxyz{|}~" : Str)))))
def F__law_dk_signs : List M → RF := runF ([] : List Str).length ([] : List Str).length b__law_dk_signs d__law_dk_signs
abbrev s__law_dk_text : Stmt := topS 18
theorem sc__law_dk_text : FnScope ["state", "most", "signs", "spot"] ["state", "most"] (defScope s__law_dk_text) := ⟨rfl, rfl, rfl, by decide +kernel, rfl, by decide +kernel, by decide +kernel⟩
abbrev b__law_dk_text : List Bool := [true, false]
def d__law_dk_text : Env → R Fl := (fSeq (fSetV 2 (fFrz (fCall0 b__law_dk_signs F__law_dk_signs))) (fRet (fUp (f2S gJoin (fC (.str ("" : Str))) (fFrz (fLc [3] (fItA rng1 (fConsA (fFrz (fCall b__law_draw F__law_draw (fSlotA 0 (fConsA (f2 gAdd (fVar 1) (fC (.int 1))) fNilA)))) fNilA)) (gN 3) fYes (f2 gIx (fVar 2) (fFrz (fCall b__law_draw F__law_draw (fSlotA 0 (fConsA (f1 gLen (fVar 2)) fNilA)))))))))))
def F__law_dk_text : List M → RF := runF (["state", "most"] : List Str).length (["state", "most", "signs", "spot"] : List Str).length b__law_dk_text d__law_dk_text
abbrev s__law_dk_sum : Stmt := topS 19
theorem sc__law_dk_sum : FnScope ["text", "found", "spot", "sign"] ["text"] (defScope s__law_dk_sum) := ⟨rfl, rfl, rfl, by decide +kernel, rfl, by decide +kernel, by decide +kernel⟩
abbrev b__law_dk_sum : List Bool := [false]
def d__law_dk_sum : Env → R Fl := (fSeq (fSetV 1 (fC (.int 0))) (fSeq (fFor (fItA enumD (fConsA (fVar 0) fNilA)) (gT (gCons (gN 2) (gCons (gN 3) gNil))) (fSetV 1 (f2 gMod (f1 gInt (f2 gAdd (fVar 1) (f2 gMul (f2 gAdd (fVar 2) (fC (.int 1))) (f1 gOrd (fVar 3))))) (fC (.int 999983))))) (fRet (fUp (fVar 1)))))
def F__law_dk_sum : List M → RF := runF (["text"] : List Str).length (["text", "found", "spot", "sign"] : List Str).length b__law_dk_sum d__law_dk_sum
abbrev s__law_dk_half : Stmt := topS 20
theorem sc__law_dk_half : FnScope ["name", "page", "side", "number", "part", "rest"] ["name", "page", "side", "number", "part"] (defScope s__law_dk_half) := ⟨rfl, rfl, rfl, by decide +kernel, rfl, by decide +kernel, by decide +kernel⟩
abbrev b__law_dk_half : List Bool := [false, false, false, false, false]
def d__law_dk_half : Env → R Fl := (fSeq (fSetV 5 (f2S gJoin (fC (.str (" " : Str))) (fLst (fConsA (fVar 0) (fConsA (f1 gStr (fVar 1)) (fConsA (f1 gStr (fVar 2)) (fConsA (f1 gStr (fVar 3)) (fConsA (fVar 4) fNilA)))))))) (fRet (fUp (f2 gAdd (f2 gAdd (f2S gZfill (f1 gStr (fFrz (fCall b__law_dk_sum F__law_dk_sum (fConsA (fVar 5) fNilA)))) (fC (.int 6))) (fC (.str (" " : Str)))) (fVar 5)))))
def F__law_dk_half : List M → RF := runF (["name", "page", "side", "number", "part"] : List Str).length (["name", "page", "side", "number", "part", "rest"] : List Str).length b__law_dk_half d__law_dk_half
abbrev s__law_dk_both : Stmt := topS 21
theorem sc__law_dk_both : FnScope ["name", "page", "number", "body", "middle"] ["name", "page", "number", "body"] (defScope s__law_dk_both) := ⟨rfl, rfl, rfl, by decide +kernel, rfl, by decide +kernel, by decide +kernel⟩
abbrev b__law_dk_both : List Bool := [false, false, false, false]
def d__law_dk_both : Env → R Fl := (fSeq (fSetV 4 (f2 gSub (f1 gLen (fVar 3)) (f2 gDiv (f1 gLen (fVar 3)) (fC (.int 2))))) (fRet (fUp (fLst (fConsA (fFrz (fCall b__law_dk_half F__law_dk_half (fConsA (fVar 0) (fConsA (fVar 1) (fConsA (fC (.int 0)) (fConsA (fVar 2) (fConsA (fSl (fVar 3) fNoPart (fPart (fVar 4))) fNilA))))))) (fConsA (fFrz (fCall b__law_dk_half F__law_dk_half (fConsA (fVar 0) (fConsA (fVar 1) (fConsA (fC (.int 1)) (fConsA (fVar 2) (fConsA (fSl (fVar 3) (fPart (fVar 4)) fNoPart) fNilA))))))) fNilA))))))
def F__law_dk_both : List M → RF := runF (["name", "page", "number", "body"] : List Str).length (["name", "page", "number", "body", "middle"] : List Str).length b__law_dk_both d__law_dk_both
abbrev s__law_dk_read : Stmt := topS 22
theorem sc__law_dk_read : FnScope ["name", "page", "side", "text", "pieces", "sign", "part"] ["name", "page", "side", "text"] (defScope s__law_dk_read) := ⟨rfl, rfl, rfl, by decide +kernel, rfl, by decide +kernel, by decide +kernel⟩
abbrev b__law_dk_read : List Bool := [false, false, false, false]
def d__law_dk_read : Env → R Fl := (fSeq (fIf (fB (f2 gEq (fVar 3) (fC (.str ("" : Str))))) (fRet (fUp (fTup (fConsA (fC (.int 0)) (fConsA (fC (.str ("" : Str))) fNilA))))) fNx) (fSeq (fSetV 4 (f2S gSplit (fVar 3) (fC (.str (" " : Str))))) (fSeq (fIf (fOr (fB (f2 gLt (f1 gLen (fVar 4)) (fC (.int 6)))) (fOr (fB (f2 gEq (f2 gIx (fVar 4) (fC (.int 4))) (fC (.str ("" : Str))))) (fOr (fB (f2 gGt (f1 gLen (f2 gIx (fVar 4) (fC (.int 4)))) (fC (.int 12)))) (fB (f2 gEq (f2 gIx (f2 gIx (fVar 4) (fC (.int 4))) (fC (.int 0))) (fC (.str ("0" : Str)))))))) (fRet (fUp (fC PyData.none))) fNx) (fSeq (fIf (fB (f2 gNe (fFrz (fLc [5] (fIt itS (f2 gIx (fVar 4) (fC (.int 4)))) (gN 5) (fB (f2 gNotIn (fVar 5) (fC (.str ("0123456789" : Str))))) (fC (.int 1)))) (fLst fNilA))) (fRet (fUp (fC PyData.none))) fNx) (fSeq (fSetV 6 (f2S gJoin (fC (.str (" " : Str))) (fSl (fVar 4) (fPart (fC (.int 5))) fNoPart))) (fRet (fUp (fIf (fB (f2 gEq (fVar 3) (fFrz (fCall b__law_dk_half F__law_dk_half (fConsA (fVar 0) (fConsA (fVar 1) (fConsA (fVar 2) (fConsA (f1 gInt (f2 gIx (fVar 4) (fC (.int 4)))) (fConsA (fVar 6) fNilA))))))))) (fTup (fConsA (f1 gInt (f2 gIx (fVar 4) (fC (.int 4)))) (fConsA (fVar 6) fNilA))) (fC PyData.none)))))))))
def F__law_dk_read : List M → RF := runF (["name", "page", "side", "text"] : List Str).length (["name", "page", "side", "text", "pieces", "sign", "part"] : List Str).length b__law_dk_read d__law_dk_read
abbrev s__law_dk_state : Stmt := topS 23
theorem sc__law_dk_state : FnScope ["name", "page", "texts", "halves", "side", "wrong"] ["name", "page", "texts"] (defScope s__law_dk_state) := ⟨rfl, rfl, rfl, by decide +kernel, rfl, by decide +kernel, by decide +kernel⟩
abbrev b__law_dk_state : List Bool := [false, false, false]
def d__law_dk_state : Env → R Fl := (fSeq (fSetM 3 (fLc [4] (fIt itD (fLst (fConsA (fC (.int 0)) (fConsA (fC (.int 1)) fNilA)))) (gN 4) fYes (fFrz (fCall b__law_dk_read F__law_dk_read (fConsA (fVar 0) (fConsA (fVar 1) (fConsA (fVar 4) (fConsA (f2 gIx (fVar 2) (fVar 4)) fNilA)))))))) (fStill 3 (fSeq (fSetV 5 (f1 gTupC (fFrz (fLc [4] (fIt itD (fLst (fConsA (fC (.int 0)) (fConsA (fC (.int 1)) fNilA)))) (gN 4) (fB (f2 gIs (f2 gIx (fVar 3) (fVar 4)) (fC PyData.none))) (fVar 4))))) (fSeq (fIf (fB (f2 gNe (fVar 5) (fTup fNilA))) (fRet (fUp (fTup (fConsA (fC (.str ("bent" : Str))) (fConsA (fVar 5) fNilA))))) fNx) (fSeq (fIf (fB (f2 gNe (f2 gIx (f2 gIx (fVar 3) (fC (.int 0))) (fC (.int 0))) (f2 gIx (f2 gIx (fVar 3) (fC (.int 1))) (fC (.int 0))))) (fRet (fUp (fTup (fConsA (fC (.str ("torn" : Str))) (fConsA (f2 gIx (f2 gIx (fVar 3) (fC (.int 0))) (fC (.int 0))) (fConsA (f2 gIx (f2 gIx (fVar 3) (fC (.int 1))) (fC (.int 0))) fNilA)))))) fNx) (fRet (fUp (fIf (fB (f2 gEq (f2 gIx (f2 gIx (fVar 3) (fC (.int 0))) (fC (.int 0))) (fC (.int 0)))) (fTup (fConsA (fC (.str ("blank" : Str))) fNilA)) (fTup (fConsA (fC (.str ("whole" : Str))) (fConsA (f2 gIx (f2 gIx (fVar 3) (fC (.int 0))) (fC (.int 0))) (fConsA (f2 gAdd (f2 gIx (f2 gIx (fVar 3) (fC (.int 0))) (fC (.int 1))) (f2 gIx (f2 gIx (fVar 3) (fC (.int 1))) (fC (.int 1)))) fNilA))))))))))))
def F__law_dk_state : List M → RF := runF (["name", "page", "texts"] : List Str).length (["name", "page", "texts", "halves", "side", "wrong"] : List Str).length b__law_dk_state d__law_dk_state
abbrev s__law_k77_near : Stmt := topS 24
theorem sc__law_k77_near : FnScope ["state", "text", "found", "signs", "place", "other", "mate", "low", "high"] ["state", "text"] (defScope s__law_k77_near) := ⟨rfl, rfl, rfl, by decide +kernel, rfl, by decide +kernel, by decide +kernel⟩
abbrev b__law_k77_near : List Bool := [true, false]
def d__law_k77_near : Env → R Fl := (fSeq (fParMV 2 3 (fLstM fNilA) (fFrz (fCall0 b__law_dk_signs F__law_dk_signs))) (fSeq (fFor (fItA rng3 (fConsA (fC (.int 0)) (fConsA (f1 gLen (fVar 1)) (fConsA (f2 gAdd (fC (.int 1)) (f2 gDiv (f1 gLen (fVar 1)) (fC (.int 80)))) fNilA)))) (gN 4) (fSeq (fPar 5 6 (fConsA (f2 gIx (fVar 3) (fFrz (fCall b__law_draw F__law_draw (fSlotA 0 (fConsA (f1 gLen (fVar 3)) fNilA))))) (fConsA (fFrz (fCall b__law_draw F__law_draw (fSlotA 0 (fConsA (f1 gLen (fVar 1)) fNilA)))) fNilA))) (fSeq (fIf (fB (f2 gNe (fVar 5) (f2 gIx (fVar 1) (fVar 4)))) (fDrop (fAppend 2 (fUp (f2 gAdd (f2 gAdd (fSl (fVar 1) fNoPart (fPart (fVar 4))) (fVar 5)) (fSl (fVar 1) (fPart (f2 gAdd (fVar 4) (fC (.int 1)))) fNoPart))))) fNx) (fSeq (fPar 7 8 (fConsA (fArgs (g2I fun i j => if j < i then j else i) (fConsA (fVar 4) (fConsA (fVar 6) fNilA))) (fConsA (fArgs (g2I fun i j => if j > i then j else i) (fConsA (fVar 4) (fConsA (fVar 6) fNilA))) fNilA))) (fIf (fB (f2 gNe (f2 gIx (fVar 1) (fVar 7)) (f2 gIx (fVar 1) (fVar 8)))) (fDrop (fAppend 2 (fUp (f2 gAdd (f2 gAdd (f2 gAdd (f2 gAdd (fSl (fVar 1) fNoPart (fPart (fVar 7))) (f2 gIx (fVar 1) (fVar 8))) (fSl (fVar 1) (fPart (f2 gAdd (fVar 7) (fC (.int 1)))) (fPart (fVar 8)))) (f2 gIx (fVar 1) (fVar 7))) (fSl (fVar 1) (fPart (f2 gAdd (fVar 8) (fC (.int 1)))) fNoPart))))) fNx))))) (fStill 2 (fRet (fUp (f2 gAdd (fVar 2) (fLst (fConsA (fSl (fVar 1) fNoPart (fPart (f1 gNeg (fC (.int 1))))) (fConsA (f2 gAdd (fVar 1) (fC (.str ("x" : Str)))) (fConsA (f2 gAdd (fC (.str (" " : Str))) (fVar 1)) fNilA))))))))))
def F__law_k77_near : List M → RF := runF (["state", "text"] : List Str).length (["state", "text", "found", "signs", "place", "other", "mate", "low", "high"] : List Str).length b__law_k77_near d__law_k77_near
abbrev s__law_k77_made : Stmt := topS 25
theorem sc__law_k77_made : FnScope ["name", "page", "side", "head", "rests", "found", "rest", "due"] ["name", "page", "side"] (defScope s__law_k77_made) := ⟨rfl, rfl, rfl, by decide +kernel, rfl, by decide +kernel, by decide +kernel⟩
abbrev b__law_k77_made : List Bool := [false, false, false]
def d__law_k77_made : Env → R Fl := (fSeq (fSetV 3 (f2S gJoin (fC (.str (" " : Str))) (fLst (fConsA (fVar 0) (fConsA (f1 gStr (fVar 1)) (fConsA (f1 gStr (fVar 2)) fNilA)))))) (fSeq (fSetV 4 (fLst (fConsA (fTup (fConsA (f2 gAdd (fVar 3) (fC (.str (" 5 ab c" : Str)))) (fConsA (fTup (fConsA (fC (.int 5)) (fConsA (fC (.str ("ab c" : Str))) fNilA))) fNilA))) (fConsA (fTup (fConsA (f2 gAdd (fVar 3) (fC (.str (" 5 " : Str)))) (fConsA (fTup (fConsA (fC (.int 5)) (fConsA (fC (.str ("" : Str))) fNilA))) fNilA))) (fConsA (fTup (fConsA (f2 gAdd (fVar 3) (fC (.str (" 5" : Str)))) (fConsA (fC PyData.none) fNilA))) (fConsA (fTup (fConsA (f2 gAdd (fVar 3) (fC (.str (" 05 ab" : Str)))) (fConsA (fC PyData.none) fNilA))) (fConsA (fTup (fConsA (f2 gAdd (fVar 3) (fC (.str (" 0 ab" : Str)))) (fConsA (fC PyData.none) fNilA))) fNilA))))))) (fSeq (fSetV 4 (f2 gAdd (fVar 4) (fLst (fConsA (fTup (fConsA (f2 gAdd (fVar 3) (fC (.str ("  5 ab" : Str)))) (fConsA (fC PyData.none) fNilA))) (fConsA (fTup (fConsA (f2 gAdd (fVar 3) (fC (.str (" 5  ab" : Str)))) (fConsA (fTup (fConsA (fC (.int 5)) (fConsA (fC (.str (" ab" : Str))) fNilA))) fNilA))) (fConsA (fTup (fConsA (f2 gAdd (fVar 3) (fC (.str (" -5 ab" : Str)))) (fConsA (fC PyData.none) fNilA))) (fConsA (fTup (fConsA (f2 gAdd (fVar 3) (fC (.str (" 5x a" : Str)))) (fConsA (fC PyData.none) fNilA))) (fConsA (fTup (fConsA (fVar 3) (fConsA (fC PyData.none) fNilA))) (fConsA (fTup (fConsA (fC (.str ("" : Str))) (fConsA (fC PyData.none) fNilA))) fNilA))))))))) (fSeq (fSetV 4 (f2 gAdd (fVar 4) (fLst (fConsA (fTup (fConsA (f2 gAdd (f2 gAdd (f2 gAdd (fVar 3) (fC (.str (" " : Str)))) (f2 gMulA (fC (.str ("9" : Str))) (fC (.int 12)))) (fC (.str (" a" : Str)))) (fConsA (fTup (fConsA (f2 gSub (f2 gPow (fC (.int 10)) (fC (.int 12))) (fC (.int 1))) (fConsA (fC (.str ("a" : Str))) fNilA))) fNilA))) (fConsA (fTup (fConsA (f2 gAdd (f2 gAdd (f2 gAdd (fVar 3) (fC (.str (" 1" : Str)))) (f2 gMulA (fC (.str ("0" : Str))) (fC (.int 12)))) (fC (.str (" a" : Str)))) (fConsA (fC PyData.none) fNilA))) (fConsA (fTup (fConsA (f2 gAdd (f2 gAdd (fC (.str ("y " : Str))) (fVar 3)) (fC (.str (" 5 a" : Str)))) (fConsA (fC PyData.none) fNilA))) fNilA)))))) (fSeq (fSetM 5 (fLc [6, 7] (fIt itD (fVar 4)) (gT (gCons (gN 6) (gCons (gN 7) gNil))) fYes (fTup (fConsA (f2 gAdd (f2 gAdd (f2S gZfill (f1 gStr (fFrz (fCall b__law_dk_sum F__law_dk_sum (fConsA (fVar 6) fNilA)))) (fC (.int 6))) (fC (.str (" " : Str)))) (fVar 6)) (fConsA (fVar 7) fNilA))))) (fStill 5 (fRet (fUp (f2 gAdd (fVar 5) (fFrz (fLc [6, 7] (fIt itD (fVar 4)) (gT (gCons (gN 6) (gCons (gN 7) gNil))) fYes (fTup (fConsA (f2 gAdd (f2S gZfill (f1 gStr (fFrz (fCall b__law_dk_sum F__law_dk_sum (fConsA (fVar 6) fNilA)))) (fC (.int 6))) (fVar 6)) (fConsA (fC PyData.none) fNilA))))))))))))))
def F__law_k77_made : List M → RF := runF (["name", "page", "side"] : List Str).length (["name", "page", "side", "head", "rests", "found", "rest", "due"] : List Str).length b__law_k77_made d__law_k77_made
abbrev s__law_k77_side : Stmt := topS 26
theorem sc__law_k77_side : FnScope ["state", "name", "page", "number", "body", "side", "due", "middle", "part", "near", "text", "told"] ["state", "name", "page", "number", "body", "side"] (defScope s__law_k77_side) := ⟨rfl, rfl, rfl, by decide +kernel, rfl, by decide +kernel, by decide +kernel⟩
abbrev b__law_k77_side : List Bool := [true, false, false, false, false, false]
def d__law_k77_side : Env → R Fl := (fSeq (fPar 6 7 (fConsA (f2 gIx (fFrz (fCall b__law_dk_both F__law_dk_both (fConsA (fVar 1) (fConsA (fVar 2) (fConsA (fVar 3) (fConsA (fVar 4) fNilA)))))) (fVar 5)) (fConsA (f2 gSub (f1 gLen (fVar 4)) (f2 gDiv (f1 gLen (fVar 4)) (fC (.int 2)))) fNilA))) (fSeq (fSetV 8 (fIf (fB (f2 gEq (fVar 5) (fC (.int 1)))) (fSl (fVar 4) (fPart (fVar 7)) fNoPart) (fSl (fVar 4) fNoPart (fPart (fVar 7))))) (fSeq (fIf (fOr (fB (f2 gNe (fFrz (fCall b_half_text F_half_text (fConsA (fVar 1) (fConsA (fVar 2) (fConsA (fVar 5) (fConsA (fVar 3) (fConsA (fVar 8) fNilA))))))) (fVar 6))) (fB (f2 gNe (fFrz (fCallK b_half_text F_half_text 5 [4, 3, 2, 1, 0] (fConsA (fVar 8) (fConsA (fVar 3) (fConsA (fVar 5) (fConsA (fVar 2) (fConsA (fVar 1) fNilA))))))) (fVar 6)))) (fRet (fUp (fC (.bool false)))) fNx) (fSeq (fIf (fB (f2 gNe (f1 gRepr (fLst (fConsA (fFrz (fCall b_read_half F_read_half (fConsA (fVar 1) (fConsA (fVar 2) (fConsA (fVar 5) (fConsA (fVar 6) fNilA)))))) (fConsA (fFrz (fCallK b_read_half F_read_half 4 [3, 2, 1, 0] (fConsA (fC (.str ("" : Str))) (fConsA (fVar 5) (fConsA (fVar 2) (fConsA (fVar 1) fNilA)))))) fNilA)))) (f1 gRepr (fLst (fConsA (fTup (fConsA (fVar 3) (fConsA (fVar 8) fNilA))) (fConsA (fTup (fConsA (fC (.int 0)) (fConsA (fC (.str ("" : Str))) fNilA))) fNilA)))))) (fRet (fUp (fC (.bool false)))) fNx) (fSeq (fIf (fB (f2 gNe (fLst (fConsA (fFrz (fCall b_read_half F_read_half (fConsA (fC (.str ("y" : Str))) (fConsA (fVar 2) (fConsA (fVar 5) (fConsA (fVar 6) fNilA)))))) (fConsA (fFrz (fCall b_read_half F_read_half (fConsA (fVar 1) (fConsA (f2 gAdd (fVar 2) (fC (.int 1))) (fConsA (fVar 5) (fConsA (fVar 6) fNilA)))))) (fConsA (fFrz (fCall b_read_half F_read_half (fConsA (fVar 1) (fConsA (fVar 2) (fConsA (f2 gSub (fC (.int 1)) (fVar 5)) (fConsA (fVar 6) fNilA)))))) fNilA)))) (fLst (fConsA (fC PyData.none) (fConsA (fC PyData.none) (fConsA (fC PyData.none) fNilA)))))) (fRet (fUp (fC (.bool false)))) fNx) (fSeq (fIf (fB (f2 gNe (fFrz (fLc [9] (fIt itD (fFrz (fCall b__law_k77_near F__law_k77_near (fSlotA 0 (fConsA (fVar 6) fNilA))))) (gN 9) (fB (f2 gIsNot (fFrz (fCall b_read_half F_read_half (fConsA (fVar 1) (fConsA (fVar 2) (fConsA (fVar 5) (fConsA (fVar 9) fNilA)))))) (fC PyData.none))) (fC (.int 1)))) (fLst fNilA))) (fRet (fUp (fC (.bool false)))) fNx) (fRet (fUp (f2 gEq (fFrz (fLc [10, 11] (fIt itD (fFrz (fCall b__law_k77_made F__law_k77_made (fConsA (fVar 1) (fConsA (fVar 2) (fConsA (fVar 5) fNilA)))))) (gT (gCons (gN 10) (gCons (gN 11) gNil))) (fB (f2 gNe (f1 gRepr (fFrz (fCall b_read_half F_read_half (fConsA (fVar 1) (fConsA (fVar 2) (fConsA (fVar 5) (fConsA (fVar 10) fNilA))))))) (f1 gRepr (fVar 11)))) (fC (.int 1)))) (fLst fNilA))))))))))
def F__law_k77_side : List M → RF := runF (["state", "name", "page", "number", "body", "side"] : List Str).length (["state", "name", "page", "number", "body", "side", "due", "middle", "part", "near", "text", "told"] : List Str).length b__law_k77_side d__law_k77_side
abbrev s_law : Stmt := topS 27
theorem sc_law : FnScope ["script", "state", "turn", "name", "page", "number", "body", "due", "middle", "side", "other", "wrong", "left", "right", "told"] ["script"] (defScope s_law) := ⟨rfl, rfl, rfl, by decide +kernel, rfl, by decide +kernel, by decide +kernel⟩
abbrev b_law : List Bool := [false]
def d_law : Env → R Fl := (fSeq (fSetM 1 (fCall b__law_begun F__law_begun (fConsA (fVar 0) fNilA))) (fSeq (fFor (fItA rng1 (fConsA (f2 gAdd (fC (.int 3)) (fArgs (g2I fun i j => if j < i then j else i) (fConsA (f1 gLen (fVar 0)) (fConsA (fC (.int 6)) fNilA)))) fNilA)) (gN 2) (fSeq (fPar 3 4 (fConsA (fFrz (fCall b__law_pick F__law_pick (fSlotA 1 (fConsA (fLst (fConsA (fC (.str ("h.0" : Str))) (fConsA (fC (.str ("house_a.4" : Str))) (fConsA (fC (.str ("x" : Str))) (fConsA (f2 gMulA (fC (.str ("#" : Str))) (fC (.int 20))) fNilA))))) fNilA)))) (fConsA (fFrz (fCall b__law_pick F__law_pick (fSlotA 1 (fConsA (fLst (fConsA (fC (.int 0)) (fConsA (fC (.int 1)) (fConsA (fC (.int 7)) (fConsA (f2 gPow (fC (.int 10)) (fC (.int 9))) fNilA))))) fNilA)))) fNilA))) (fSeq (fPar 5 6 (fConsA (fFrz (fCall b__law_pick F__law_pick (fSlotA 1 (fConsA (fLst (fConsA (fC (.int 1)) (fConsA (fC (.int 2)) (fConsA (fC (.int 57)) (fConsA (f2 gPow (fC (.int 10)) (fC (.int 9))) fNilA))))) fNilA)))) (fConsA (fFrz (fCall b__law_dk_text F__law_dk_text (fSlotA 1 (fConsA (fFrz (fCall b__law_pick F__law_pick (fSlotA 1 (fConsA (fLst (fConsA (fC (.int 0)) (fConsA (fC (.int 1)) (fConsA (fC (.int 9)) (fConsA (fC (.int 40)) (fConsA (fC (.int 300)) fNilA)))))) fNilA)))) fNilA)))) fNilA))) (fSeq (fPar 7 8 (fConsA (fFrz (fCall b__law_dk_both F__law_dk_both (fConsA (fVar 3) (fConsA (fVar 4) (fConsA (fVar 5) (fConsA (fVar 6) fNilA)))))) (fConsA (f2 gSub (f1 gLen (fVar 6)) (f2 gDiv (f1 gLen (fVar 6)) (fC (.int 2)))) fNilA))) (fSeq (fIf (fB (f2 gNe (f1 gRepr (fLst (fConsA (fFrz (fCall b_sides_of F_sides_of (fConsA (fVar 6) fNilA))) (fConsA (fFrz (fCallK b_sides_of F_sides_of 1 [0] (fConsA (fVar 6) fNilA))) fNilA)))) (f1 gRepr (f2 gMulA (fLst (fConsA (fTup (fConsA (fSl (fVar 6) fNoPart (fPart (fVar 8))) (fConsA (fSl (fVar 6) (fPart (fVar 8)) fNoPart) fNilA))) fNilA)) (fC (.int 2)))))) (fRet (fUp (fC (.bool false)))) fNx) (fSeq (fIf (fB (f2 gNe (f1 gRepr (fLst (fConsA (fFrz (fCall b_page_texts F_page_texts (fConsA (fVar 3) (fConsA (fVar 4) (fConsA (fVar 5) (fConsA (fVar 6) fNilA)))))) (fConsA (fFrz (fCallK b_page_texts F_page_texts 4 [3, 2, 1, 0] (fConsA (fVar 6) (fConsA (fVar 5) (fConsA (fVar 4) (fConsA (fVar 3) fNilA)))))) fNilA)))) (f1 gRepr (f2 gMulA (fLst (fConsA (f1 gTupC (fVar 7)) fNilA)) (fC (.int 2)))))) (fRet (fUp (fC (.bool false)))) fNx) (fSeq (fIf (fB (f2 gNe (f1 gRepr (fLst (fConsA (fFrz (fCall b_half_sum F_half_sum (fConsA (fVar 6) fNilA))) (fConsA (fFrz (fCallK b_half_sum F_half_sum 1 [0] (fConsA (f2 gIx (fVar 7) (fC (.int 0))) fNilA))) fNilA)))) (f1 gRepr (fLst (fConsA (fFrz (fCall b__law_dk_sum F__law_dk_sum (fConsA (fVar 6) fNilA))) (fConsA (fFrz (fCall b__law_dk_sum F__law_dk_sum (fConsA (f2 gIx (fVar 7) (fC (.int 0))) fNilA))) fNilA)))))) (fRet (fUp (fC (.bool false)))) fNx) (fSeq (fFor (fIt itD (fLst (fConsA (fC (.int 0)) (fConsA (fC (.int 1)) fNilA)))) (gN 9) (fIf (fNot (fB (fFrz (fCall b__law_k77_side F__law_k77_side (fSlotA 1 (fConsA (fVar 3) (fConsA (fVar 4) (fConsA (fVar 5) (fConsA (fVar 6) (fConsA (fVar 9) fNilA)))))))))) (fRet (fUp (fC (.bool false)))) fNx)) (fSeq (fSetV 10 (fFrz (fCall b__law_dk_both F__law_dk_both (fConsA (fVar 3) (fConsA (fVar 4) (fConsA (f2 gAdd (f2 gAdd (fVar 5) (fC (.int 1))) (fFrz (fCall b__law_draw F__law_draw (fSlotA 1 (fConsA (fC (.int 9)) fNilA))))) (fConsA (fFrz (fCall b__law_dk_text F__law_dk_text (fSlotA 1 (fConsA (fC (.int 9)) fNilA)))) fNilA))))))) (fSeq (fSetV 11 (fLst (fConsA (f2 gAdd (fSl (f2 gIx (fVar 7) (fC (.int 0))) fNoPart (fPart (f1 gNeg (fC (.int 1))))) (fIf (fB (f2 gNe (f2 gIx (f2 gIx (fVar 7) (fC (.int 0))) (f1 gNeg (fC (.int 1)))) (fC (.str ("x" : Str))))) (fC (.str ("x" : Str))) (fC (.str ("y" : Str))))) (fConsA (f2 gAdd (fSl (f2 gIx (fVar 7) (fC (.int 1))) fNoPart (fPart (f1 gNeg (fC (.int 1))))) (fIf (fB (f2 gNe (f2 gIx (f2 gIx (fVar 7) (fC (.int 1))) (f1 gNeg (fC (.int 1)))) (fC (.str ("x" : Str))))) (fC (.str ("x" : Str))) (fC (.str ("y" : Str))))) fNilA)))) (fFor (fIt itD (fLst (fConsA (f2 gIx (fVar 7) (fC (.int 0))) (fConsA (f2 gIx (fVar 10) (fC (.int 0))) (fConsA (fC (.str ("" : Str))) (fConsA (f2 gIx (fVar 11) (fC (.int 0))) (fConsA (f2 gIx (fVar 7) (fC (.int 1))) fNilA))))))) (gN 12) (fFor (fIt itD (fLst (fConsA (f2 gIx (fVar 7) (fC (.int 1))) (fConsA (f2 gIx (fVar 10) (fC (.int 1))) (fConsA (fC (.str ("" : Str))) (fConsA (f2 gIx (fVar 11) (fC (.int 1))) (fConsA (f2 gIx (fVar 7) (fC (.int 0))) fNilA))))))) (gN 13) (fSeq (fSetV 14 (fFrz (fCall b__law_dk_state F__law_dk_state (fConsA (fVar 3) (fConsA (fVar 4) (fConsA (fLst (fConsA (fVar 12) (fConsA (fVar 13) fNilA))) fNilA)))))) (fIf (fB (f2 gNe (f1 gRepr (fLst (fConsA (fFrz (fCall b_state_of_halves F_state_of_halves (fConsA (fVar 3) (fConsA (fVar 4) (fConsA (fVar 12) (fConsA (fVar 13) fNilA)))))) (fConsA (fFrz (fCallK b_state_of_halves F_state_of_halves 4 [3, 2, 1, 0] (fConsA (fVar 13) (fConsA (fVar 12) (fConsA (fVar 4) (fConsA (fVar 3) fNilA)))))) fNilA)))) (f1 gRepr (fLst (fConsA (fVar 14) (fConsA (fVar 14) fNilA)))))) (fRet (fUp (fC (.bool false)))) fNx)))))))))))))) (fRet (fUp (fAndV (f2 gEq (fFrz (fCall b_half_sum F_half_sum (fConsA (fC (.str ("" : Str))) fNilA))) (fC (.int 0))) (f2 gEq (fFrz (fCall b_half_sum F_half_sum (fConsA (fC (.str ("ab" : Str))) fNilA))) (f2 gAdd (fC (.int 97)) (f2 gMul (fC (.int 2)) (fC (.int 98))))))))))
def F_law : List M → RF := runF (["script"] : List Str).length (["script", "state", "turn", "name", "page", "number", "body", "due", "middle", "side", "other", "wrong", "left", "right", "told"] : List Str).length b_law d_law
section
variable {P : Program} {w : World} {K : PySem.W.Frag} {mg : Str → Option Value} {base : Heap}
theorem ok_half_sum {f : Addr} {fd : FuncData} (Fn : Fun K "half_sum" "half_sum" s_half_sum f fd) (m_enumerate : mg "enumerate" = none) (m_ord : mg "ord" = none) (m_sum : mg "sum" = none) (m_PRIME : GC mg "PRIME" (.int 999983)) : FnG P w K mg base (L2.CX P w) (0 + 1) f fd ["text"] (spD K mg (["text"] : List Str).length b_half_sum (runF (["text"] : List Str).length (["text", "at", "sign"] : List Str).length b_half_sum d_half_sum)) := by
  exact fn_data (k := 0) (br := b_half_sum) (fb := d_half_sum) Fn sc_half_sum rfl (by decide) fun cdv A outer s H E hgu hr =>
    have hu := hr.units
    have tk := takes_of (X := cxOf (L2.CX P w) P w K mg base ["text", "at", "sign"] "half_sum" (defScope s_half_sum) f cdv A outer s H E) (E := E) rfl rfl rfl rfl
    (dss_one (ds_ret (em_ev (ev_mod (ev_sum rfl m_sum (eb_of (ev_em (em_lc rfl sc_half_sum.nd (blkOk_by (N := ["text", "at", "sign"]) (sc := defScope s_half_sum) (by decide +kernel)) (lc_mk (own := [("at", 1), ("sign", 2)]) (di_enum m_enumerate (ea_cons (ev_var (pv 0)) ea_nil)) (fun i => (dg_tup rfl (dgs_cons (dg_name (i := 1) sc_half_sum.nd) (dgs_cons (dg_name (i := 2) sc_half_sum.nd) dgs_nil)) rfl rfl (gCons_len (gCons_len gNil_len)))) (by decide) (fun i => ets_nil) (fun i => (ev_mul (ev_add (ev_var (pv 1)) ev_int) (ev_ord m_ord (eb_of (ev_var (pv 2))))))))))) (ev_globC (v := (.int 999983)) m_PRIME (fun _ => .int _))))))
theorem ok_sides_of {f : Addr} {fd : FuncData} (Fn : Fun K "sides_of" "sides_of" s_sides_of f fd) (m_len : mg "len" = none) : FnG P w K mg base (L2.CX P w) (0 + 1) f fd ["body"] (spD K mg (["body"] : List Str).length b_sides_of (runF (["body"] : List Str).length (["body", "middle"] : List Str).length b_sides_of d_sides_of)) := by
  exact fn_data (k := 0) (br := b_sides_of) (fb := d_sides_of) Fn sc_sides_of rfl (by decide) fun cdv A outer s H E hgu hr =>
    have hu := hr.units
    have tk := takes_of (X := cxOf (L2.CX P w) P w K mg base ["body", "middle"] "sides_of" (defScope s_sides_of) f cdv A outer s H E) (E := E) rfl rfl rfl rfl
    (dss_cons (ds_set (i := 1) sc_sides_of.nd (ev_div (ev_add (ev_len m_len (eb_of (ev_var (pv 0)))) ev_int) ev_int)) (dss_one (ds_ret (em_ev (ev_tup (ea_cons (ev_slice (ev_var (pv 0)) eo_none (eo_some (eb_of (ev_var (pv 1))))) (ea_cons (ev_slice (ev_var (pv 0)) (eo_some (eb_of (ev_var (pv 1)))) eo_none) ea_nil)))))))
theorem ok_half_text {f : Addr} {fd : FuncData} (Fn : Fun K "half_text" "half_text" s_half_text f fd) (c_half_sum : DCal P w K mg base 1 "half_sum" s_half_sum ["text"] b_half_sum F_half_sum) : FnG P w K mg base (L2.CX P w) (1 + 1) f fd ["name", "page", "side", "number", "part"] (spD K mg (["name", "page", "side", "number", "part"] : List Str).length b_half_text (runF (["name", "page", "side", "number", "part"] : List Str).length (["name", "page", "side", "number", "part", "rest"] : List Str).length b_half_text d_half_text)) := by
  exact fn_data (k := 1) (br := b_half_text) (fb := d_half_text) Fn sc_half_text rfl (by decide) fun cdv A outer s H E hgu hr =>
    have hu := hr.units
    have tk := takes_of (X := cxOf (L2.CX P w) P w K mg base ["name", "page", "side", "number", "part", "rest"] "half_text" (defScope s_half_text) f cdv A outer s H E) (E := E) rfl rfl rfl rfl
    (dss_cons (ds_set (i := 5) sc_half_text.nd (ev_joined (ej_cons (ev_fmt (eb_of (ev_var (pv 0)))) (ej_cons ev_str (ej_cons (ev_fmt (eb_of (ev_var (pv 1)))) (ej_cons ev_str (ej_cons (ev_fmt (eb_of (ev_var (pv 2)))) (ej_cons ev_str (ej_cons (ev_fmt (eb_of (ev_var (pv 3)))) (ej_cons ev_str (ej_cons (ev_fmt (eb_of (ev_var (pv 4)))) ej_nil))))))))))) (dss_one (ds_ret (em_ev (ev_joined (ej_cons (ev_fmt6 (pe_joined1 pe_str) (ev_em (em_call c_half_sum hgu hr (by decide) tk (ea_cons (ev_var (pv 5)) ea_nil)))) (ej_cons ev_str (ej_cons (ev_fmt (eb_of (ev_var (pv 5)))) ej_nil))))))))
theorem ok_is_figures {f : Addr} {fd : FuncData} (Fn : Fun K "is_figures" "is_figures" s_is_figures f fd) (m_all : mg "all" = none) (m_len : mg "len" = none) (m_FIGURES : GC mg "FIGURES" (.str ("0123456789" : Str))) (m_MOST_FIGURES : GC mg "MOST_FIGURES" (.int 12)) : FnG P w K mg base (L2.CX P w) (0 + 1) f fd ["text"] (spD K mg (["text"] : List Str).length b_is_figures (runF (["text"] : List Str).length (["text", "sign"] : List Str).length b_is_figures d_is_figures)) := by
  exact fn_data (k := 0) (br := b_is_figures) (fb := d_is_figures) Fn sc_is_figures rfl (by decide) fun cdv A outer s H E hgu hr =>
    have hu := hr.units
    have tk := takes_of (X := cxOf (L2.CX P w) P w K mg base ["text", "sign"] "is_figures" (defScope s_is_figures) f cdv A outer s H E) (E := E) rfl rfl rfl rfl
    (dss_cons (ds_if (et_w (ew_or (et_eq hu (ev_var (pv 0)) (eb_of ev_str)) (ew_or (et_gt (ev_len m_len (eb_of (ev_var (pv 0)))) (eb_of (ev_globC (v := (.int 12)) m_MOST_FIGURES (fun _ => .int _)))) (ew_or1 (et_eq hu (ev_at (ev_var (pv 0)) ev_int) (eb_of ev_str)))))) (dss_one (ds_ret (em_ev ev_bl))) dss_nil) (dss_one (ds_ret (em_ev (ev_all rfl m_all (eb_of (ev_em (em_lc rfl sc_is_figures.nd (blkOk_by (N := ["text", "sign"]) (sc := defScope s_is_figures) (by decide +kernel)) (lc_mk (own := [("sign", 1)]) (di_str (eb_of (ev_var (pv 0)))) (fun i => (dg_name (i := 1) sc_is_figures.nd)) (by decide) (fun i => ets_nil) (fun i => (ev_inS (ev_var (pv 1)) (eb_of (ev_globC (v := (.str ("0123456789" : Str))) m_FIGURES (fun _ => .str _))))))))))))))
theorem ok_read_half {f : Addr} {fd : FuncData} (Fn : Fun K "read_half" "read_half" s_read_half f fd) (c_half_sum : DCal P w K mg base 1 "half_sum" s_half_sum ["text"] b_half_sum F_half_sum) (c_is_figures : DCal P w K mg base 1 "is_figures" s_is_figures ["text"] b_is_figures F_is_figures) (m_int : mg "int" = none) (m_len : mg "len" = none) (m_HEAD : GC mg "HEAD" (.int 7)) : FnG P w K mg base (L2.CX P w) (1 + 1) f fd ["name", "page", "side", "text"] (spD K mg (["name", "page", "side", "text"] : List Str).length b_read_half (runF (["name", "page", "side", "text"] : List Str).length (["name", "page", "side", "text", "rest", "head", "number", "blank", "part"] : List Str).length b_read_half d_read_half)) := by
  exact fn_data (k := 1) (br := b_read_half) (fb := d_read_half) Fn sc_read_half rfl (by decide) fun cdv A outer s H E hgu hr =>
    have hu := hr.units
    have tk := takes_of (X := cxOf (L2.CX P w) P w K mg base ["name", "page", "side", "text", "rest", "head", "number", "blank", "part"] "read_half" (defScope s_read_half) f cdv A outer s H E) (E := E) rfl rfl rfl rfl
    (dss_cons (ds_if (et_eq hu (ev_var (pv 3)) (eb_of ev_str)) (dss_one (ds_ret (em_ev (ev_tup (ea_cons ev_int (ea_cons ev_str ea_nil)))))) dss_nil) (dss_cons (ds_par (i := 4) (j := 5) rfl sc_read_half.nd (ea_cons (ev_slice (ev_var (pv 3)) (eo_some (eb_of (ev_globC (v := (.int 7)) m_HEAD (fun _ => .int _)))) eo_none) (ea_cons (ev_joined (ej_cons (ev_fmt (eb_of (ev_var (pv 0)))) (ej_cons ev_str (ej_cons (ev_fmt (eb_of (ev_var (pv 1)))) (ej_cons ev_str (ej_cons (ev_fmt (eb_of (ev_var (pv 2)))) (ej_cons ev_str ej_nil))))))) ea_nil))) (dss_cons (ds_if (et_w (ew_or (et_ne hu (ev_slice (ev_var (pv 3)) eo_none (eo_some (eb_of (ev_globC (v := (.int 7)) m_HEAD (fun _ => .int _))))) (eb_of (ev_joined (ej_cons (ev_fmt6 (pe_joined1 pe_str) (ev_em (em_call c_half_sum hgu hr (by decide) tk (ea_cons (ev_var (pv 4)) ea_nil)))) (ej_cons ev_str ej_nil))))) (ew_or1 (et_not (et_val (eb_of (ev_startswith (ev_var (pv 4)) (eb_of (ev_var (pv 5)))))))))) (dss_one (ds_ret (em_ev ev_non))) dss_nil) (dss_cons (ds_asg (ev_partition (ev_slice (ev_var (pv 4)) (eo_some (eb_of (ev_len m_len (eb_of (ev_var (pv 5)))))) eo_none) (eb_of ev_str)) (dg_tup rfl (dgs_cons (dg_name (i := 6) sc_read_half.nd) (dgs_cons (dg_name (i := 7) sc_read_half.nd) (dgs_cons (dg_name (i := 8) sc_read_half.nd) dgs_nil))) rfl rfl (gCons_len (gCons_len (gCons_len gNil_len))))) (dss_cons (ds_if (et_w (ew_or (et_eq hu (ev_var (pv 7)) (eb_of ev_str)) (ew_or1 (et_not (et_val (eb_of (ev_em (em_call c_is_figures hgu hr (by decide) tk (ea_cons (ev_var (pv 6)) ea_nil))))))))) (dss_one (ds_ret (em_ev ev_non))) dss_nil) (dss_one (ds_ret (em_ev (ev_tup (ea_cons (ev_intc m_int (eb_of (ev_var (pv 6)))) (ea_cons (ev_var (pv 8)) ea_nil)))))))))))
theorem ok_page_texts {f : Addr} {fd : FuncData} (Fn : Fun K "page_texts" "page_texts" s_page_texts f fd) (c_half_text : DCal P w K mg base 2 "half_text" s_half_text ["name", "page", "side", "number", "part"] b_half_text F_half_text) (c_sides_of : DCal P w K mg base 1 "sides_of" s_sides_of ["body"] b_sides_of F_sides_of) : FnG P w K mg base (L2.CX P w) (2 + 1) f fd ["name", "page", "number", "body"] (spD K mg (["name", "page", "number", "body"] : List Str).length b_page_texts (runF (["name", "page", "number", "body"] : List Str).length (["name", "page", "number", "body", "first", "second"] : List Str).length b_page_texts d_page_texts)) := by
  exact fn_data (k := 2) (br := b_page_texts) (fb := d_page_texts) Fn sc_page_texts rfl (by decide) fun cdv A outer s H E hgu hr =>
    have hu := hr.units
    have tk := takes_of (X := cxOf (L2.CX P w) P w K mg base ["name", "page", "number", "body", "first", "second"] "page_texts" (defScope s_page_texts) f cdv A outer s H E) (E := E) rfl rfl rfl rfl
    (dss_cons (ds_asg (ev_em (em_call c_sides_of hgu hr (by decide) tk (ea_cons (ev_var (pv 3)) ea_nil))) (dg_tup rfl (dgs_cons (dg_name (i := 4) sc_page_texts.nd) (dgs_cons (dg_name (i := 5) sc_page_texts.nd) dgs_nil)) rfl rfl (gCons_len (gCons_len gNil_len)))) (dss_one (ds_ret (em_ev (ev_tup (ea_cons (ev_em (em_call c_half_text hgu hr (by decide) tk (ea_cons (ev_var (pv 0)) (ea_cons (ev_var (pv 1)) (ea_cons ev_int (ea_cons (ev_var (pv 2)) (ea_cons (ev_var (pv 4)) ea_nil))))))) (ea_cons (ev_em (em_call c_half_text hgu hr (by decide) tk (ea_cons (ev_var (pv 0)) (ea_cons (ev_var (pv 1)) (ea_cons ev_int (ea_cons (ev_var (pv 2)) (ea_cons (ev_var (pv 5)) ea_nil))))))) ea_nil)))))))
theorem ok_state_of_halves {f : Addr} {fd : FuncData} (Fn : Fun K "state_of_halves" "state_of_halves" s_state_of_halves f fd) (c_read_half : DCal P w K mg base 2 "read_half" s_read_half ["name", "page", "side", "text"] b_read_half F_read_half) (m_enumerate : mg "enumerate" = none) (m_tuple : mg "tuple" = none) : FnG P w K mg base (L2.CX P w) (2 + 1) f fd ["name", "page", "left", "right"] (spD K mg (["name", "page", "left", "right"] : List Str).length b_state_of_halves (runF (["name", "page", "left", "right"] : List Str).length (["name", "page", "left", "right", "found", "bent", "side", "half"] : List Str).length b_state_of_halves d_state_of_halves)) := by
  exact fn_data (k := 2) (br := b_state_of_halves) (fb := d_state_of_halves) Fn sc_state_of_halves rfl (by decide) fun cdv A outer s H E hgu hr =>
    have hu := hr.units
    have tk := takes_of (X := cxOf (L2.CX P w) P w K mg base ["name", "page", "left", "right", "found", "bent", "side", "half"] "state_of_halves" (defScope s_state_of_halves) f cdv A outer s H E) (E := E) rfl rfl rfl rfl
    (dss_cons (ds_set (i := 4) sc_state_of_halves.nd (ev_lst (ea_cons (ev_em (em_call c_read_half hgu hr (by decide) tk (ea_cons (ev_var (pv 0)) (ea_cons (ev_var (pv 1)) (ea_cons ev_int (ea_cons (ev_var (pv 2)) ea_nil)))))) (ea_cons (ev_em (em_call c_read_half hgu hr (by decide) tk (ea_cons (ev_var (pv 0)) (ea_cons (ev_var (pv 1)) (ea_cons ev_int (ea_cons (ev_var (pv 3)) ea_nil)))))) ea_nil)))) (dss_cons (ds_set (i := 5) sc_state_of_halves.nd (ev_tuple m_tuple (ev_em (em_lc rfl sc_state_of_halves.nd (blkOk_by (N := ["name", "page", "left", "right", "found", "bent", "side", "half"]) (sc := defScope s_state_of_halves) (by decide +kernel)) (lc_mk (own := [("side", 6), ("half", 7)]) (di_enum m_enumerate (ea_cons (ev_var (pv 4)) ea_nil)) (fun i => (dg_tup rfl (dgs_cons (dg_name (i := 6) sc_state_of_halves.nd) (dgs_cons (dg_name (i := 7) sc_state_of_halves.nd) dgs_nil)) rfl rfl (gCons_len (gCons_len gNil_len)))) (by decide) (fun i => (ets_one (et_is (ev_var (pv 7)) (eb_of ev_non)))) (fun i => (ev_var (pv 6)))))))) (dss_cons (ds_if (et_ne hu (ev_var (pv 5)) (eb_of (ev_tup ea_nil))) (dss_one (ds_ret (em_ev (ev_tup (ea_cons ev_str (ea_cons (ev_var (pv 5)) ea_nil)))))) dss_nil) (dss_cons (ds_if (et_ne hu (ev_at (ev_at (ev_var (pv 4)) ev_int) ev_int) (eb_of (ev_at (ev_at (ev_var (pv 4)) ev_int) ev_int))) (dss_one (ds_ret (em_ev (ev_tup (ea_cons ev_str (ea_cons (ev_at (ev_at (ev_var (pv 4)) ev_int) ev_int) (ea_cons (ev_at (ev_at (ev_var (pv 4)) ev_int) ev_int) ea_nil))))))) dss_nil) (dss_cons (ds_if (et_eq hu (ev_at (ev_at (ev_var (pv 4)) ev_int) ev_int) (eb_of ev_int)) (dss_one (ds_ret (em_ev (ev_tup (ea_cons ev_str ea_nil))))) dss_nil) (dss_one (ds_ret (em_ev (ev_tup (ea_cons ev_str (ea_cons (ev_at (ev_at (ev_var (pv 4)) ev_int) ev_int) (ea_cons (ev_add (ev_at (ev_at (ev_var (pv 4)) ev_int) ev_int) (ev_at (ev_at (ev_var (pv 4)) ev_int) ev_int)) ea_nil))))))))))))
theorem ok__law_begun {f : Addr} {fd : FuncData} (Fn : Fun K "_law_begun" "_law_begun" s__law_begun f fd) (m_abs : mg "abs" = none) : FnG P w K mg base (L2.CX P w) (0 + 1) f fd ["script"] (spD K mg (["script"] : List Str).length b__law_begun (runF (["script"] : List Str).length (["script", "great", "cell"] : List Str).length b__law_begun d__law_begun)) := by
  exact fn_data (k := 0) (br := b__law_begun) (fb := d__law_begun) Fn sc__law_begun rfl (by decide) fun cdv A outer s H E hgu hr =>
    have hu := hr.units
    have tk := takes_of (X := cxOf (L2.CX P w) P w K mg base ["script", "great", "cell"] "_law_begun" (defScope s__law_begun) f cdv A outer s H E) (E := E) rfl rfl rfl rfl
    (dss_cons (ds_setLc (i := 1) rfl sc__law_begun.nd (blkOk_by (N := ["script", "great", "cell"]) (sc := defScope s__law_begun) (by decide +kernel)) (lc_mk (own := [("cell", 2)]) (di_list (ev_var (pv 0))) (fun i => (dg_name (i := 2) sc__law_begun.nd)) (by decide) (fun i => (ets_one (et_ge (ev_abs m_abs (eb_of (ev_var (pv 2)))) (eb_of (ev_pow ev_int ev_int))))) (fun i => (ev_sub (ev_abs m_abs (eb_of (ev_var (pv 2)))) (ev_pow ev_int ev_int))))) (dss_one (ds_ret (em_dct (eps_cons (k := .inr ("great" : Str)) pe_str (em_move (pv 1)) (eps_cons (k := .inr ("cells" : Str)) pe_str (em_ev (ev_em (em_lc rfl sc__law_begun.nd (blkOk_by (N := ["script", "great", "cell"]) (sc := defScope s__law_begun) (by decide +kernel)) (lc_mk (own := [("cell", 2)]) (di_list (ev_var (pv 0))) (fun i => (dg_name (i := 2) sc__law_begun.nd)) (by decide) (fun i => ets_nil) (fun i => (ev_abs m_abs (eb_of (ev_var (pv 2))))))))) (eps_cons (k := .inr ("left" : Str)) pe_str (em_ev ev_int) (eps_cons (k := .inr ("turn" : Str)) pe_str (em_ev ev_int) eps_nil))))))))
theorem ok__law_blended {f : Addr} {fd : FuncData} (Fn : Fun K "_law_blended" "_law_blended" s__law_blended f fd) (m_int : mg "int" = none) : FnG P w K mg base (L2.CX P w) (0 + 1) f fd ["state"] (spD K mg (["state"] : List Str).length b__law_blended (runF (["state"] : List Str).length (["state", "turn", "found", "prime", "blend", "cell"] : List Str).length b__law_blended d__law_blended)) := by
  exact fn_data (k := 0) (br := b__law_blended) (fb := d__law_blended) Fn sc__law_blended rfl (by decide) fun cdv A outer s H E hgu hr =>
    have hu := hr.units
    have tk := takes_of (X := cxOf (L2.CX P w) P w K mg base ["state", "turn", "found", "prime", "blend", "cell"] "_law_blended" (defScope s__law_blended) f cdv A outer s H E) (E := E) rfl rfl rfl rfl
    (dss_cons (ds_par (i := 1) (j := 2) rfl sc__law_blended.nd (ea_cons (ev_add (ev_path (ep_key (k := .inr ("turn" : Str)) hu (ep_var (pv 0)) pe_str)) ev_int) (ea_cons ev_int ea_nil))) (dss_cons (ds_putK (k := .inr ("turn" : Str)) hu (ep_var (pv 0)) pe_str (em_ev (ev_var (pv 1)))) (dss_cons (ds_for (passes_of rfl) rfl (di_list (ev_lst (ea_cons ev_int (ea_cons ev_int (ea_cons ev_int ea_nil))))) (dg_name (i := 3) sc__law_blended.nd) (dss_cons (ds_set (i := 4) sc__law_blended.nd (ev_add (ev_mul ev_int (ev_var (pv 1))) (ev_div (ev_var (pv 3)) ev_int))) (dss_cons (ds_for (passes_of rfl) rfl (di_list (ev_path (ep_key (k := .inr ("cells" : Str)) hu (ep_var (pv 0)) pe_str))) (dg_name (i := 5) sc__law_blended.nd) (dss_one (ds_set (i := 4) sc__law_blended.nd (ev_mod (ev_intc m_int (eb_of (ev_add (ev_add (ev_mul (ev_var (pv 4)) ev_int) (ev_var (pv 5))) (ev_var (pv 1))))) (ev_var (pv 3)))))) (dss_one (ds_set (i := 2) sc__law_blended.nd (ev_add (ev_mul (ev_var (pv 2)) ev_int) (ev_mod (ev_intc m_int (eb_of (ev_pow (ev_var (pv 4)) ev_int))) (ev_var (pv 3))))))))) (dss_one (ds_ret (em_ev (ev_var (pv 2))))))))
theorem ok__law_draw {f : Addr} {fd : FuncData} (Fn : Fun K "_law_draw" "_law_draw" s__law_draw f fd) (c__law_blended : DCal P w K mg base 1 "_law_blended" s__law_blended ["state"] b__law_blended F__law_blended) (m_int : mg "int" = none) : FnG P w K mg base (L2.CX P w) (1 + 1) f fd ["state", "size_here"] (spD K mg (["state", "size_here"] : List Str).length b__law_draw (runF (["state", "size_here"] : List Str).length (["state", "size_here", "found"] : List Str).length b__law_draw d__law_draw)) := by
  exact fn_data (k := 1) (br := b__law_draw) (fb := d__law_draw) Fn sc__law_draw rfl (by decide) fun cdv A outer s H E hgu hr =>
    have hu := hr.units
    have tk := takes_of (X := cxOf (L2.CX P w) P w K mg base ["state", "size_here", "found"] "_law_draw" (defScope s__law_draw) f cdv A outer s H E) (E := E) rfl rfl rfl rfl
    (dss_cons (ds_if (et_eq hu (ev_path (ep_key (k := .inr ("left" : Str)) hu (ep_var (pv 0)) pe_str)) (eb_of ev_int)) (dss_one (ds_putK (k := .inr ("left" : Str)) hu (ep_var (pv 0)) pe_str (em_ev (ev_ifx (et_neNil hu (eb_path (ep_key (k := .inr ("great" : Str)) hu (ep_var (pv 0)) pe_str))) (ev_em (em_pop0 (ep_key (k := .inr ("great" : Str)) hu (ep_var (pv 0)) pe_str) pe_int)) (ev_em (em_call c__law_blended hgu hr (by decide) tk (ea_slot (pv 0) ea_nil))))))) dss_nil) (dss_cons (ds_set (i := 2) sc__law_draw.nd (ev_mod (ev_intc m_int (eb_path (ep_key (k := .inr ("left" : Str)) hu (ep_var (pv 0)) pe_str))) (ev_var (pv 1)))) (dss_cons (ds_putK (k := .inr ("left" : Str)) hu (ep_var (pv 0)) pe_str (em_ev (ev_div (ev_path (ep_key (k := .inr ("left" : Str)) hu (ep_var (pv 0)) pe_str)) (ev_var (pv 1))))) (dss_one (ds_ret (em_ev (ev_var (pv 2))))))))
theorem ok__law_pick {f : Addr} {fd : FuncData} (Fn : Fun K "_law_pick" "_law_pick" s__law_pick f fd) (c__law_draw : DCal P w K mg base 2 "_law_draw" s__law_draw ["state", "size_here"] b__law_draw F__law_draw) (m_len : mg "len" = none) : FnG P w K mg base (L2.CX P w) (2 + 1) f fd ["state", "several"] (spD K mg (["state", "several"] : List Str).length b__law_pick (runF (["state", "several"] : List Str).length (["state", "several"] : List Str).length b__law_pick d__law_pick)) := by
  exact fn_data (k := 2) (br := b__law_pick) (fb := d__law_pick) Fn sc__law_pick rfl (by decide) fun cdv A outer s H E hgu hr =>
    have hu := hr.units
    have tk := takes_of (X := cxOf (L2.CX P w) P w K mg base ["state", "several"] "_law_pick" (defScope s__law_pick) f cdv A outer s H E) (E := E) rfl rfl rfl rfl
    (dss_one (ds_ret (em_ev (ev_at (ev_var (pv 1)) (ev_em (em_call c__law_draw hgu hr (by decide) tk (ea_slot (pv 0) (ea_cons (ev_len m_len (eb_of (ev_var (pv 1)))) ea_nil))))))))
theorem ok__law_dk_signs {f : Addr} {fd : FuncData} (Fn : Fun K "_law_dk_signs" "_law_dk_signs" s__law_dk_signs f fd) : FnG P w K mg base (L2.CX P w) (0 + 1) f fd [] (spD K mg ([] : List Str).length b__law_dk_signs (runF ([] : List Str).length ([] : List Str).length b__law_dk_signs d__law_dk_signs)) := by
  exact fn_data (k := 0) (br := b__law_dk_signs) (fb := d__law_dk_signs) Fn sc__law_dk_signs rfl (by decide) fun cdv A outer s H E hgu hr =>
    have hu := hr.units
    have tk := takes_of (X := cxOf (L2.CX P w) P w K mg base [] "_law_dk_signs" (defScope s__law_dk_signs) f cdv A outer s H E) (E := E) rfl rfl rfl rfl
    (dss_one (ds_ret (em_ev ev_str)))
theorem ok__law_dk_text {f : Addr} {fd : FuncData} (Fn : Fun K "_law_dk_text" "_law_dk_text" s__law_dk_text f fd) (c__law_dk_signs : DCal P w K mg base 1 "_law_dk_signs" s__law_dk_signs [] b__law_dk_signs F__law_dk_signs) (c__law_draw : DCal P w K mg base 2 "_law_draw" s__law_draw ["state", "size_here"] b__law_draw F__law_draw) (m_len : mg "len" = none) (m_range : mg "range" = none) : FnG P w K mg base (L2.CX P w) (2 + 1) f fd ["state", "most"] (spD K mg (["state", "most"] : List Str).length b__law_dk_text (runF (["state", "most"] : List Str).length (["state", "most", "signs", "spot"] : List Str).length b__law_dk_text d__law_dk_text)) := by
  exact fn_data (k := 2) (br := b__law_dk_text) (fb := d__law_dk_text) Fn sc__law_dk_text rfl (by decide) fun cdv A outer s H E hgu hr =>
    have hu := hr.units
    have tk := takes_of (X := cxOf (L2.CX P w) P w K mg base ["state", "most", "signs", "spot"] "_law_dk_text" (defScope s__law_dk_text) f cdv A outer s H E) (E := E) rfl rfl rfl rfl
    (dss_cons (ds_set (i := 2) sc__law_dk_text.nd (ev_em (em_call0 c__law_dk_signs hgu hr (by decide) tk))) (dss_one (ds_ret (em_ev (ev_join ev_str (eb_of (ev_em (em_lc rfl sc__law_dk_text.nd (blkOk_by (N := ["state", "most", "signs", "spot"]) (sc := defScope s__law_dk_text) (by decide +kernel)) (lc_mk (own := [("spot", 3)]) (di_range1 m_range (ea_cons (ev_em (em_call c__law_draw hgu hr (by decide) tk (ea_slot (pv 0) (ea_cons (ev_add (ev_var (pv 1)) ev_int) ea_nil)))) ea_nil)) (fun i => (dg_name (i := 3) sc__law_dk_text.nd)) (by decide) (fun i => ets_nil) (fun i => (ev_at (ev_var (pv 2)) (ev_em (em_call c__law_draw hgu hr (by decide) takes_WF (ea_slot (pv 0) (ea_cons (ev_len m_len (eb_of (ev_var (pv 2)))) ea_nil)))))))))))))))
theorem ok__law_dk_sum {f : Addr} {fd : FuncData} (Fn : Fun K "_law_dk_sum" "_law_dk_sum" s__law_dk_sum f fd) (m_enumerate : mg "enumerate" = none) (m_int : mg "int" = none) (m_ord : mg "ord" = none) : FnG P w K mg base (L2.CX P w) (0 + 1) f fd ["text"] (spD K mg (["text"] : List Str).length b__law_dk_sum (runF (["text"] : List Str).length (["text", "found", "spot", "sign"] : List Str).length b__law_dk_sum d__law_dk_sum)) := by
  exact fn_data (k := 0) (br := b__law_dk_sum) (fb := d__law_dk_sum) Fn sc__law_dk_sum rfl (by decide) fun cdv A outer s H E hgu hr =>
    have hu := hr.units
    have tk := takes_of (X := cxOf (L2.CX P w) P w K mg base ["text", "found", "spot", "sign"] "_law_dk_sum" (defScope s__law_dk_sum) f cdv A outer s H E) (E := E) rfl rfl rfl rfl
    (dss_cons (ds_set (i := 1) sc__law_dk_sum.nd ev_int) (dss_cons (ds_for (passes_of rfl) rfl (di_enum m_enumerate (ea_cons (ev_var (pv 0)) ea_nil)) (dg_tup rfl (dgs_cons (dg_name (i := 2) sc__law_dk_sum.nd) (dgs_cons (dg_name (i := 3) sc__law_dk_sum.nd) dgs_nil)) rfl rfl (gCons_len (gCons_len gNil_len))) (dss_one (ds_set (i := 1) sc__law_dk_sum.nd (ev_mod (ev_intc m_int (eb_of (ev_add (ev_var (pv 1)) (ev_mul (ev_add (ev_var (pv 2)) ev_int) (ev_ord m_ord (eb_of (ev_var (pv 3)))))))) ev_int)))) (dss_one (ds_ret (em_ev (ev_var (pv 1)))))))
theorem ok__law_dk_half {f : Addr} {fd : FuncData} (Fn : Fun K "_law_dk_half" "_law_dk_half" s__law_dk_half f fd) (c__law_dk_sum : DCal P w K mg base 1 "_law_dk_sum" s__law_dk_sum ["text"] b__law_dk_sum F__law_dk_sum) (m_str : mg "str" = none) : FnG P w K mg base (L2.CX P w) (1 + 1) f fd ["name", "page", "side", "number", "part"] (spD K mg (["name", "page", "side", "number", "part"] : List Str).length b__law_dk_half (runF (["name", "page", "side", "number", "part"] : List Str).length (["name", "page", "side", "number", "part", "rest"] : List Str).length b__law_dk_half d__law_dk_half)) := by
  exact fn_data (k := 1) (br := b__law_dk_half) (fb := d__law_dk_half) Fn sc__law_dk_half rfl (by decide) fun cdv A outer s H E hgu hr =>
    have hu := hr.units
    have tk := takes_of (X := cxOf (L2.CX P w) P w K mg base ["name", "page", "side", "number", "part", "rest"] "_law_dk_half" (defScope s__law_dk_half) f cdv A outer s H E) (E := E) rfl rfl rfl rfl
    (dss_cons (ds_set (i := 5) sc__law_dk_half.nd (ev_join ev_str (eb_of (ev_lst (ea_cons (ev_var (pv 0)) (ea_cons (ev_strc m_str (eb_of (ev_var (pv 1)))) (ea_cons (ev_strc m_str (eb_of (ev_var (pv 2)))) (ea_cons (ev_strc m_str (eb_of (ev_var (pv 3)))) (ea_cons (ev_var (pv 4)) ea_nil))))))))) (dss_one (ds_ret (em_ev (ev_add (ev_add (ev_zfill (ev_strc m_str (eb_of (ev_em (em_call c__law_dk_sum hgu hr (by decide) tk (ea_cons (ev_var (pv 5)) ea_nil))))) (eb_of ev_int)) ev_str) (ev_var (pv 5)))))))
theorem ok__law_dk_both {f : Addr} {fd : FuncData} (Fn : Fun K "_law_dk_both" "_law_dk_both" s__law_dk_both f fd) (c__law_dk_half : DCal P w K mg base 2 "_law_dk_half" s__law_dk_half ["name", "page", "side", "number", "part"] b__law_dk_half F__law_dk_half) (m_len : mg "len" = none) : FnG P w K mg base (L2.CX P w) (2 + 1) f fd ["name", "page", "number", "body"] (spD K mg (["name", "page", "number", "body"] : List Str).length b__law_dk_both (runF (["name", "page", "number", "body"] : List Str).length (["name", "page", "number", "body", "middle"] : List Str).length b__law_dk_both d__law_dk_both)) := by
  exact fn_data (k := 2) (br := b__law_dk_both) (fb := d__law_dk_both) Fn sc__law_dk_both rfl (by decide) fun cdv A outer s H E hgu hr =>
    have hu := hr.units
    have tk := takes_of (X := cxOf (L2.CX P w) P w K mg base ["name", "page", "number", "body", "middle"] "_law_dk_both" (defScope s__law_dk_both) f cdv A outer s H E) (E := E) rfl rfl rfl rfl
    (dss_cons (ds_set (i := 4) sc__law_dk_both.nd (ev_sub (ev_len m_len (eb_of (ev_var (pv 3)))) (ev_div (ev_len m_len (eb_of (ev_var (pv 3)))) ev_int))) (dss_one (ds_ret (em_ev (ev_lst (ea_cons (ev_em (em_call c__law_dk_half hgu hr (by decide) tk (ea_cons (ev_var (pv 0)) (ea_cons (ev_var (pv 1)) (ea_cons ev_int (ea_cons (ev_var (pv 2)) (ea_cons (ev_slice (ev_var (pv 3)) eo_none (eo_some (eb_of (ev_var (pv 4))))) ea_nil))))))) (ea_cons (ev_em (em_call c__law_dk_half hgu hr (by decide) tk (ea_cons (ev_var (pv 0)) (ea_cons (ev_var (pv 1)) (ea_cons ev_int (ea_cons (ev_var (pv 2)) (ea_cons (ev_slice (ev_var (pv 3)) (eo_some (eb_of (ev_var (pv 4)))) eo_none) ea_nil))))))) ea_nil)))))))
theorem ok__law_dk_read {f : Addr} {fd : FuncData} (Fn : Fun K "_law_dk_read" "_law_dk_read" s__law_dk_read f fd) (c__law_dk_half : DCal P w K mg base 2 "_law_dk_half" s__law_dk_half ["name", "page", "side", "number", "part"] b__law_dk_half F__law_dk_half) (m_int : mg "int" = none) (m_len : mg "len" = none) : FnG P w K mg base (L2.CX P w) (2 + 1) f fd ["name", "page", "side", "text"] (spD K mg (["name", "page", "side", "text"] : List Str).length b__law_dk_read (runF (["name", "page", "side", "text"] : List Str).length (["name", "page", "side", "text", "pieces", "sign", "part"] : List Str).length b__law_dk_read d__law_dk_read)) := by
  exact fn_data (k := 2) (br := b__law_dk_read) (fb := d__law_dk_read) Fn sc__law_dk_read rfl (by decide) fun cdv A outer s H E hgu hr =>
    have hu := hr.units
    have tk := takes_of (X := cxOf (L2.CX P w) P w K mg base ["name", "page", "side", "text", "pieces", "sign", "part"] "_law_dk_read" (defScope s__law_dk_read) f cdv A outer s H E) (E := E) rfl rfl rfl rfl
    (dss_cons (ds_if (et_eq hu (ev_var (pv 3)) (eb_of ev_str)) (dss_one (ds_ret (em_ev (ev_tup (ea_cons ev_int (ea_cons ev_str ea_nil)))))) dss_nil) (dss_cons (ds_set (i := 4) sc__law_dk_read.nd (ev_split (ev_var (pv 3)) (eb_of ev_str))) (dss_cons (ds_if (et_w (ew_or (et_lt (ev_len m_len (eb_of (ev_var (pv 4)))) (eb_of ev_int)) (ew_or (et_eq hu (ev_at (ev_var (pv 4)) ev_int) (eb_of ev_str)) (ew_or (et_gt (ev_len m_len (eb_of (ev_at (ev_var (pv 4)) ev_int))) (eb_of ev_int)) (ew_or1 (et_eq hu (ev_at (ev_at (ev_var (pv 4)) ev_int) ev_int) (eb_of ev_str))))))) (dss_one (ds_ret (em_ev ev_non))) dss_nil) (dss_cons (ds_if (et_ne hu (ev_em (em_lc rfl sc__law_dk_read.nd (blkOk_by (N := ["name", "page", "side", "text", "pieces", "sign", "part"]) (sc := defScope s__law_dk_read) (by decide +kernel)) (lc_mk (own := [("sign", 5)]) (di_str (eb_of (ev_at (ev_var (pv 4)) ev_int))) (fun i => (dg_name (i := 5) sc__law_dk_read.nd)) (by decide) (fun i => (ets_one (et_notInS (ev_var (pv 5)) (eb_of ev_str)))) (fun i => ev_int)))) (eb_of (ev_lst ea_nil))) (dss_one (ds_ret (em_ev ev_non))) dss_nil) (dss_cons (ds_set (i := 6) sc__law_dk_read.nd (ev_join ev_str (eb_of (ev_slice (ev_var (pv 4)) (eo_some (eb_of ev_int)) eo_none)))) (dss_one (ds_ret (em_ev (ev_ifx (et_eq hu (ev_var (pv 3)) (eb_of (ev_em (em_call c__law_dk_half hgu hr (by decide) tk (ea_cons (ev_var (pv 0)) (ea_cons (ev_var (pv 1)) (ea_cons (ev_var (pv 2)) (ea_cons (ev_intc m_int (eb_of (ev_at (ev_var (pv 4)) ev_int))) (ea_cons (ev_var (pv 6)) ea_nil))))))))) (ev_tup (ea_cons (ev_intc m_int (eb_of (ev_at (ev_var (pv 4)) ev_int))) (ea_cons (ev_var (pv 6)) ea_nil))) ev_non)))))))))
theorem ok__law_dk_state {f : Addr} {fd : FuncData} (Fn : Fun K "_law_dk_state" "_law_dk_state" s__law_dk_state f fd) (c__law_dk_read : DCal P w K mg base 3 "_law_dk_read" s__law_dk_read ["name", "page", "side", "text"] b__law_dk_read F__law_dk_read) (m_tuple : mg "tuple" = none) : FnG P w K mg base (L2.CX P w) (3 + 1) f fd ["name", "page", "texts"] (spD K mg (["name", "page", "texts"] : List Str).length b__law_dk_state (runF (["name", "page", "texts"] : List Str).length (["name", "page", "texts", "halves", "side", "wrong"] : List Str).length b__law_dk_state d__law_dk_state)) := by
  exact fn_data (k := 3) (br := b__law_dk_state) (fb := d__law_dk_state) Fn sc__law_dk_state rfl (by decide) fun cdv A outer s H E hgu hr =>
    have hu := hr.units
    have tk := takes_of (X := cxOf (L2.CX P w) P w K mg base ["name", "page", "texts", "halves", "side", "wrong"] "_law_dk_state" (defScope s__law_dk_state) f cdv A outer s H E) (E := E) rfl rfl rfl rfl
    (dss_cons (ds_setM (i := 3) sc__law_dk_state.nd (em_lc rfl sc__law_dk_state.nd (blkOk_by (N := ["name", "page", "texts", "halves", "side", "wrong"]) (sc := defScope s__law_dk_state) (by decide +kernel)) (lc_mk (own := [("side", 4)]) (di_list (ev_lst (ea_cons ev_int (ea_cons ev_int ea_nil)))) (fun i => (dg_name (i := 4) sc__law_dk_state.nd)) (by decide) (fun i => ets_nil) (fun i => (ev_em (em_call c__law_dk_read hgu hr (by decide) takes_WF (ea_cons (ev_var (pv 0)) (ea_cons (ev_var (pv 1)) (ea_cons (ev_var (pv 4)) (ea_cons (ev_at (ev_var (pv 2)) (ev_var (pv 4))) ea_nil)))))))))) (dss_still (i := 3) (dss_cons (ds_set (i := 5) sc__law_dk_state.nd (ev_tuple m_tuple (ev_em (em_lc rfl sc__law_dk_state.nd (blkOk_by (N := ["name", "page", "texts", "halves", "side", "wrong"]) (sc := defScope s__law_dk_state) (by decide +kernel)) (lc_mk (own := [("side", 4)]) (di_list (ev_lst (ea_cons ev_int (ea_cons ev_int ea_nil)))) (fun i => (dg_name (i := 4) sc__law_dk_state.nd)) (by decide) (fun i => (ets_one (et_is (ev_at (ev_var (pv 3)) (ev_var (pv 4))) (eb_of ev_non)))) (fun i => (ev_var (pv 4)))))))) (dss_cons (ds_if (et_ne hu (ev_var (pv 5)) (eb_of (ev_tup ea_nil))) (dss_one (ds_ret (em_ev (ev_tup (ea_cons ev_str (ea_cons (ev_var (pv 5)) ea_nil)))))) dss_nil) (dss_cons (ds_if (et_ne hu (ev_at (ev_at (ev_var (pv 3)) ev_int) ev_int) (eb_of (ev_at (ev_at (ev_var (pv 3)) ev_int) ev_int))) (dss_one (ds_ret (em_ev (ev_tup (ea_cons ev_str (ea_cons (ev_at (ev_at (ev_var (pv 3)) ev_int) ev_int) (ea_cons (ev_at (ev_at (ev_var (pv 3)) ev_int) ev_int) ea_nil))))))) dss_nil) (dss_one (ds_ret (em_ev (ev_ifx (et_eq hu (ev_at (ev_at (ev_var (pv 3)) ev_int) ev_int) (eb_of ev_int)) (ev_tup (ea_cons ev_str ea_nil)) (ev_tup (ea_cons ev_str (ea_cons (ev_at (ev_at (ev_var (pv 3)) ev_int) ev_int) (ea_cons (ev_add (ev_at (ev_at (ev_var (pv 3)) ev_int) ev_int) (ev_at (ev_at (ev_var (pv 3)) ev_int) ev_int)) ea_nil)))))))))))))
theorem ok__law_k77_near {f : Addr} {fd : FuncData} (Fn : Fun K "_law_k77_near" "_law_k77_near" s__law_k77_near f fd) (c__law_dk_signs : DCal P w K mg base 1 "_law_dk_signs" s__law_dk_signs [] b__law_dk_signs F__law_dk_signs) (c__law_draw : DCal P w K mg base 2 "_law_draw" s__law_draw ["state", "size_here"] b__law_draw F__law_draw) (m_len : mg "len" = none) (m_max : mg "max" = none) (m_min : mg "min" = none) (m_range : mg "range" = none) : FnG P w K mg base (L2.CX P w) (2 + 1) f fd ["state", "text"] (spD K mg (["state", "text"] : List Str).length b__law_k77_near (runF (["state", "text"] : List Str).length (["state", "text", "found", "signs", "place", "other", "mate", "low", "high"] : List Str).length b__law_k77_near d__law_k77_near)) := by
  exact fn_data (k := 2) (br := b__law_k77_near) (fb := d__law_k77_near) Fn sc__law_k77_near rfl (by decide) fun cdv A outer s H E hgu hr =>
    have hu := hr.units
    have tk := takes_of (X := cxOf (L2.CX P w) P w K mg base ["state", "text", "found", "signs", "place", "other", "mate", "low", "high"] "_law_k77_near" (defScope s__law_k77_near) f cdv A outer s H E) (E := E) rfl rfl rfl rfl
    (dss_cons (ds_parM (i := 2) (j := 3) rfl sc__law_k77_near.nd (em_lst ea_nil) (ev_em (em_call0 c__law_dk_signs hgu hr (by decide) tk))) (dss_cons (ds_for (passes_of rfl) rfl (di_range3 m_range (ea_cons ev_int (ea_cons (ev_len m_len (eb_of (ev_var (pv 1)))) (ea_cons (ev_add ev_int (ev_div (ev_len m_len (eb_of (ev_var (pv 1)))) ev_int)) ea_nil)))) (dg_name (i := 4) sc__law_k77_near.nd) (dss_cons (ds_par (i := 5) (j := 6) rfl sc__law_k77_near.nd (ea_cons (ev_at (ev_var (pv 3)) (ev_em (em_call c__law_draw hgu hr (by decide) tk (ea_slot (pv 0) (ea_cons (ev_len m_len (eb_of (ev_var (pv 3)))) ea_nil))))) (ea_cons (ev_em (em_call c__law_draw hgu hr (by decide) tk (ea_slot (pv 0) (ea_cons (ev_len m_len (eb_of (ev_var (pv 1)))) ea_nil)))) ea_nil))) (dss_cons (ds_if (et_ne hu (ev_var (pv 5)) (eb_of (ev_at (ev_var (pv 1)) (ev_var (pv 4))))) (dss_one (ds_expr (eb_of (ev_append (pv 2) (em_ev (ev_add (ev_add (ev_slice (ev_var (pv 1)) eo_none (eo_some (eb_of (ev_var (pv 4))))) (ev_var (pv 5))) (ev_slice (ev_var (pv 1)) (eo_some (eb_of (ev_add (ev_var (pv 4)) ev_int))) eo_none))))))) dss_nil) (dss_cons (ds_par (i := 7) (j := 8) rfl sc__law_k77_near.nd (ea_cons (ev_min2 rfl m_min (ea_cons (ev_var (pv 4)) (ea_cons (ev_var (pv 6)) ea_nil))) (ea_cons (ev_max2 rfl m_max (ea_cons (ev_var (pv 4)) (ea_cons (ev_var (pv 6)) ea_nil))) ea_nil))) (dss_one (ds_if (et_ne hu (ev_at (ev_var (pv 1)) (ev_var (pv 7))) (eb_of (ev_at (ev_var (pv 1)) (ev_var (pv 8))))) (dss_one (ds_expr (eb_of (ev_append (pv 2) (em_ev (ev_add (ev_add (ev_add (ev_add (ev_slice (ev_var (pv 1)) eo_none (eo_some (eb_of (ev_var (pv 7))))) (ev_at (ev_var (pv 1)) (ev_var (pv 8)))) (ev_slice (ev_var (pv 1)) (eo_some (eb_of (ev_add (ev_var (pv 7)) ev_int))) (eo_some (eb_of (ev_var (pv 8)))))) (ev_at (ev_var (pv 1)) (ev_var (pv 7)))) (ev_slice (ev_var (pv 1)) (eo_some (eb_of (ev_add (ev_var (pv 8)) ev_int))) eo_none))))))) dss_nil)))))) (dss_still (i := 2) (dss_one (ds_ret (em_ev (ev_add (ev_var (pv 2)) (ev_lst (ea_cons (ev_slice (ev_var (pv 1)) eo_none (eo_some (eb_of (ev_neg ev_int)))) (ea_cons (ev_add (ev_var (pv 1)) ev_str) (ea_cons (ev_add ev_str (ev_var (pv 1))) ea_nil)))))))))))
theorem ok__law_k77_made {f : Addr} {fd : FuncData} (Fn : Fun K "_law_k77_made" "_law_k77_made" s__law_k77_made f fd) (c__law_dk_sum : DCal P w K mg base 1 "_law_dk_sum" s__law_dk_sum ["text"] b__law_dk_sum F__law_dk_sum) (m_str : mg "str" = none) : FnG P w K mg base (L2.CX P w) (1 + 1) f fd ["name", "page", "side"] (spD K mg (["name", "page", "side"] : List Str).length b__law_k77_made (runF (["name", "page", "side"] : List Str).length (["name", "page", "side", "head", "rests", "found", "rest", "due"] : List Str).length b__law_k77_made d__law_k77_made)) := by
  exact fn_data (k := 1) (br := b__law_k77_made) (fb := d__law_k77_made) Fn sc__law_k77_made rfl (by decide) fun cdv A outer s H E hgu hr =>
    have hu := hr.units
    have tk := takes_of (X := cxOf (L2.CX P w) P w K mg base ["name", "page", "side", "head", "rests", "found", "rest", "due"] "_law_k77_made" (defScope s__law_k77_made) f cdv A outer s H E) (E := E) rfl rfl rfl rfl
    (dss_cons (ds_set (i := 3) sc__law_k77_made.nd (ev_join ev_str (eb_of (ev_lst (ea_cons (ev_var (pv 0)) (ea_cons (ev_strc m_str (eb_of (ev_var (pv 1)))) (ea_cons (ev_strc m_str (eb_of (ev_var (pv 2)))) ea_nil))))))) (dss_cons (ds_set (i := 4) sc__law_k77_made.nd (ev_lst (ea_cons (ev_tup (ea_cons (ev_add (ev_var (pv 3)) ev_str) (ea_cons (ev_tup (ea_cons ev_int (ea_cons ev_str ea_nil))) ea_nil))) (ea_cons (ev_tup (ea_cons (ev_add (ev_var (pv 3)) ev_str) (ea_cons (ev_tup (ea_cons ev_int (ea_cons ev_str ea_nil))) ea_nil))) (ea_cons (ev_tup (ea_cons (ev_add (ev_var (pv 3)) ev_str) (ea_cons ev_non ea_nil))) (ea_cons (ev_tup (ea_cons (ev_add (ev_var (pv 3)) ev_str) (ea_cons ev_non ea_nil))) (ea_cons (ev_tup (ea_cons (ev_add (ev_var (pv 3)) ev_str) (ea_cons ev_non ea_nil))) ea_nil))))))) (dss_cons (ds_set (i := 4) sc__law_k77_made.nd (ev_add (ev_var (pv 4)) (ev_lst (ea_cons (ev_tup (ea_cons (ev_add (ev_var (pv 3)) ev_str) (ea_cons ev_non ea_nil))) (ea_cons (ev_tup (ea_cons (ev_add (ev_var (pv 3)) ev_str) (ea_cons (ev_tup (ea_cons ev_int (ea_cons ev_str ea_nil))) ea_nil))) (ea_cons (ev_tup (ea_cons (ev_add (ev_var (pv 3)) ev_str) (ea_cons ev_non ea_nil))) (ea_cons (ev_tup (ea_cons (ev_add (ev_var (pv 3)) ev_str) (ea_cons ev_non ea_nil))) (ea_cons (ev_tup (ea_cons (ev_var (pv 3)) (ea_cons ev_non ea_nil))) (ea_cons (ev_tup (ea_cons ev_str (ea_cons ev_non ea_nil))) ea_nil))))))))) (dss_cons (ds_set (i := 4) sc__law_k77_made.nd (ev_add (ev_var (pv 4)) (ev_lst (ea_cons (ev_tup (ea_cons (ev_add (ev_add (ev_add (ev_var (pv 3)) ev_str) (ev_mulA ev_str ev_int)) ev_str) (ea_cons (ev_tup (ea_cons (ev_sub (ev_pow ev_int ev_int) ev_int) (ea_cons ev_str ea_nil))) ea_nil))) (ea_cons (ev_tup (ea_cons (ev_add (ev_add (ev_add (ev_var (pv 3)) ev_str) (ev_mulA ev_str ev_int)) ev_str) (ea_cons ev_non ea_nil))) (ea_cons (ev_tup (ea_cons (ev_add (ev_add ev_str (ev_var (pv 3))) ev_str) (ea_cons ev_non ea_nil))) ea_nil)))))) (dss_cons (ds_setLc (i := 5) rfl sc__law_k77_made.nd (blkOk_by (N := ["name", "page", "side", "head", "rests", "found", "rest", "due"]) (sc := defScope s__law_k77_made) (by decide +kernel)) (lc_mk (own := [("rest", 6), ("due", 7)]) (di_list (ev_var (pv 4))) (fun i => (dg_tup rfl (dgs_cons (dg_name (i := 6) sc__law_k77_made.nd) (dgs_cons (dg_name (i := 7) sc__law_k77_made.nd) dgs_nil)) rfl rfl (gCons_len (gCons_len gNil_len)))) (by decide) (fun i => ets_nil) (fun i => (ev_tup (ea_cons (ev_add (ev_add (ev_zfill (ev_strc m_str (eb_of (ev_em (em_call c__law_dk_sum hgu hr (by decide) takes_WF (ea_cons (ev_var (pv 6)) ea_nil))))) (eb_of ev_int)) ev_str) (ev_var (pv 6))) (ea_cons (ev_var (pv 7)) ea_nil)))))) (dss_still (i := 5) (dss_one (ds_ret (em_ev (ev_add (ev_var (pv 5)) (ev_em (em_lc rfl sc__law_k77_made.nd (blkOk_by (N := ["name", "page", "side", "head", "rests", "found", "rest", "due"]) (sc := defScope s__law_k77_made) (by decide +kernel)) (lc_mk (own := [("rest", 6), ("due", 7)]) (di_list (ev_var (pv 4))) (fun i => (dg_tup rfl (dgs_cons (dg_name (i := 6) sc__law_k77_made.nd) (dgs_cons (dg_name (i := 7) sc__law_k77_made.nd) dgs_nil)) rfl rfl (gCons_len (gCons_len gNil_len)))) (by decide) (fun i => ets_nil) (fun i => (ev_tup (ea_cons (ev_add (ev_zfill (ev_strc m_str (eb_of (ev_em (em_call c__law_dk_sum hgu hr (by decide) takes_WF (ea_cons (ev_var (pv 6)) ea_nil))))) (eb_of ev_int)) (ev_var (pv 6))) (ea_cons ev_non ea_nil)))))))))))))))))
theorem ok__law_k77_side {f : Addr} {fd : FuncData} (Fn : Fun K "_law_k77_side" "_law_k77_side" s__law_k77_side f fd) (c__law_dk_both : DCal P w K mg base 3 "_law_dk_both" s__law_dk_both ["name", "page", "number", "body"] b__law_dk_both F__law_dk_both) (c__law_k77_made : DCal P w K mg base 2 "_law_k77_made" s__law_k77_made ["name", "page", "side"] b__law_k77_made F__law_k77_made) (c__law_k77_near : DCal P w K mg base 3 "_law_k77_near" s__law_k77_near ["state", "text"] b__law_k77_near F__law_k77_near) (c_half_text : DCal P w K mg base 2 "half_text" s_half_text ["name", "page", "side", "number", "part"] b_half_text F_half_text) (c_read_half : DCal P w K mg base 2 "read_half" s_read_half ["name", "page", "side", "text"] b_read_half F_read_half) (m_len : mg "len" = none) (m_repr : mg "repr" = none) : FnG P w K mg base (L2.CX P w) (3 + 1) f fd ["state", "name", "page", "number", "body", "side"] (spD K mg (["state", "name", "page", "number", "body", "side"] : List Str).length b__law_k77_side (runF (["state", "name", "page", "number", "body", "side"] : List Str).length (["state", "name", "page", "number", "body", "side", "due", "middle", "part", "near", "text", "told"] : List Str).length b__law_k77_side d__law_k77_side)) := by
  exact fn_data (k := 3) (br := b__law_k77_side) (fb := d__law_k77_side) Fn sc__law_k77_side rfl (by decide) fun cdv A outer s H E hgu hr =>
    have hu := hr.units
    have tk := takes_of (X := cxOf (L2.CX P w) P w K mg base ["state", "name", "page", "number", "body", "side", "due", "middle", "part", "near", "text", "told"] "_law_k77_side" (defScope s__law_k77_side) f cdv A outer s H E) (E := E) rfl rfl rfl rfl
    (dss_cons (ds_par (i := 6) (j := 7) rfl sc__law_k77_side.nd (ea_cons (ev_at (ev_em (em_call c__law_dk_both hgu hr (by decide) tk (ea_cons (ev_var (pv 1)) (ea_cons (ev_var (pv 2)) (ea_cons (ev_var (pv 3)) (ea_cons (ev_var (pv 4)) ea_nil)))))) (ev_var (pv 5))) (ea_cons (ev_sub (ev_len m_len (eb_of (ev_var (pv 4)))) (ev_div (ev_len m_len (eb_of (ev_var (pv 4)))) ev_int)) ea_nil))) (dss_cons (ds_set (i := 8) sc__law_k77_side.nd (ev_ifx (et_eq hu (ev_var (pv 5)) (eb_of ev_int)) (ev_slice (ev_var (pv 4)) (eo_some (eb_of (ev_var (pv 7)))) eo_none) (ev_slice (ev_var (pv 4)) eo_none (eo_some (eb_of (ev_var (pv 7))))))) (dss_cons (ds_if (et_w (ew_or (et_ne hu (ev_em (em_call c_half_text hgu hr (by decide) tk (ea_cons (ev_var (pv 1)) (ea_cons (ev_var (pv 2)) (ea_cons (ev_var (pv 5)) (ea_cons (ev_var (pv 3)) (ea_cons (ev_var (pv 8)) ea_nil))))))) (eb_of (ev_var (pv 6)))) (ew_or1 (et_ne hu (ev_em (em_callK (ks := ["part", "number", "side", "page", "name"]) (is := [4, 3, 2, 1, 0]) c_half_text hgu hr (by decide) tk (ek_cons (ev_var (pv 8)) (ek_cons (ev_var (pv 3)) (ek_cons (ev_var (pv 5)) (ek_cons (ev_var (pv 2)) (ek_cons (ev_var (pv 1)) ek_nil))))) (fun kV doc pm an cdv ct => ⟨fun s ws us _ hl e => match ws, hl with | [v0, v1, v2, v3, v4], _ => by cases e; exact .of_eq rfl⟩))) (eb_of (ev_var (pv 6))))))) (dss_one (ds_ret (em_ev ev_bl))) dss_nil) (dss_cons (ds_if (et_ne hu (ev_repr hgu hu m_repr (eb_of (ev_lst (ea_cons (ev_em (em_call c_read_half hgu hr (by decide) tk (ea_cons (ev_var (pv 1)) (ea_cons (ev_var (pv 2)) (ea_cons (ev_var (pv 5)) (ea_cons (ev_var (pv 6)) ea_nil)))))) (ea_cons (ev_em (em_callK (ks := ["text", "side", "page", "name"]) (is := [3, 2, 1, 0]) c_read_half hgu hr (by decide) tk (ek_cons ev_str (ek_cons (ev_var (pv 5)) (ek_cons (ev_var (pv 2)) (ek_cons (ev_var (pv 1)) ek_nil)))) (fun kV doc pm an cdv ct => ⟨fun s ws us _ hl e => match ws, hl with | [v0, v1, v2, v3], _ => by cases e; exact .of_eq rfl⟩))) ea_nil))))) (eb_of (ev_repr hgu hu m_repr (eb_of (ev_lst (ea_cons (ev_tup (ea_cons (ev_var (pv 3)) (ea_cons (ev_var (pv 8)) ea_nil))) (ea_cons (ev_tup (ea_cons ev_int (ea_cons ev_str ea_nil))) ea_nil))))))) (dss_one (ds_ret (em_ev ev_bl))) dss_nil) (dss_cons (ds_if (et_ne hu (ev_lst (ea_cons (ev_em (em_call c_read_half hgu hr (by decide) tk (ea_cons ev_str (ea_cons (ev_var (pv 2)) (ea_cons (ev_var (pv 5)) (ea_cons (ev_var (pv 6)) ea_nil)))))) (ea_cons (ev_em (em_call c_read_half hgu hr (by decide) tk (ea_cons (ev_var (pv 1)) (ea_cons (ev_add (ev_var (pv 2)) ev_int) (ea_cons (ev_var (pv 5)) (ea_cons (ev_var (pv 6)) ea_nil)))))) (ea_cons (ev_em (em_call c_read_half hgu hr (by decide) tk (ea_cons (ev_var (pv 1)) (ea_cons (ev_var (pv 2)) (ea_cons (ev_sub ev_int (ev_var (pv 5))) (ea_cons (ev_var (pv 6)) ea_nil)))))) ea_nil)))) (eb_of (ev_lst (ea_cons ev_non (ea_cons ev_non (ea_cons ev_non ea_nil)))))) (dss_one (ds_ret (em_ev ev_bl))) dss_nil) (dss_cons (ds_if (et_ne hu (ev_em (em_lc rfl sc__law_k77_side.nd (blkOk_by (N := ["state", "name", "page", "number", "body", "side", "due", "middle", "part", "near", "text", "told"]) (sc := defScope s__law_k77_side) (by decide +kernel)) (lc_mk (own := [("near", 9)]) (di_list (ev_em (em_call c__law_k77_near hgu hr (by decide) tk (ea_slot (pv 0) (ea_cons (ev_var (pv 6)) ea_nil))))) (fun i => (dg_name (i := 9) sc__law_k77_side.nd)) (by decide) (fun i => (ets_one (et_isNot (ev_em (em_call c_read_half hgu hr (by decide) takes_WF (ea_cons (ev_var (pv 1)) (ea_cons (ev_var (pv 2)) (ea_cons (ev_var (pv 5)) (ea_cons (ev_var (pv 9)) ea_nil)))))) (eb_of ev_non)))) (fun i => ev_int)))) (eb_of (ev_lst ea_nil))) (dss_one (ds_ret (em_ev ev_bl))) dss_nil) (dss_one (ds_ret (em_ev (ev_eq hu (ev_em (em_lc rfl sc__law_k77_side.nd (blkOk_by (N := ["state", "name", "page", "number", "body", "side", "due", "middle", "part", "near", "text", "told"]) (sc := defScope s__law_k77_side) (by decide +kernel)) (lc_mk (own := [("text", 10), ("told", 11)]) (di_list (ev_em (em_call c__law_k77_made hgu hr (by decide) tk (ea_cons (ev_var (pv 1)) (ea_cons (ev_var (pv 2)) (ea_cons (ev_var (pv 5)) ea_nil)))))) (fun i => (dg_tup rfl (dgs_cons (dg_name (i := 10) sc__law_k77_side.nd) (dgs_cons (dg_name (i := 11) sc__law_k77_side.nd) dgs_nil)) rfl rfl (gCons_len (gCons_len gNil_len)))) (by decide) (fun i => (ets_one (et_ne hu (ev_repr hgu hu m_repr (eb_of (ev_em (em_call c_read_half hgu hr (by decide) takes_WF (ea_cons (ev_var (pv 1)) (ea_cons (ev_var (pv 2)) (ea_cons (ev_var (pv 5)) (ea_cons (ev_var (pv 10)) ea_nil)))))))) (eb_of (ev_repr hgu hu m_repr (eb_of (ev_var (pv 11)))))))) (fun i => ev_int)))) (eb_of (ev_lst ea_nil))))))))))))
theorem ok_law {f : Addr} {fd : FuncData} (Fn : Fun K "law" "law" s_law f fd) (c__law_begun : DCal P w K mg base 1 "_law_begun" s__law_begun ["script"] b__law_begun F__law_begun) (c__law_dk_both : DCal P w K mg base 3 "_law_dk_both" s__law_dk_both ["name", "page", "number", "body"] b__law_dk_both F__law_dk_both) (c__law_dk_state : DCal P w K mg base 4 "_law_dk_state" s__law_dk_state ["name", "page", "texts"] b__law_dk_state F__law_dk_state) (c__law_dk_sum : DCal P w K mg base 1 "_law_dk_sum" s__law_dk_sum ["text"] b__law_dk_sum F__law_dk_sum) (c__law_dk_text : DCal P w K mg base 3 "_law_dk_text" s__law_dk_text ["state", "most"] b__law_dk_text F__law_dk_text) (c__law_draw : DCal P w K mg base 2 "_law_draw" s__law_draw ["state", "size_here"] b__law_draw F__law_draw) (c__law_k77_side : DCal P w K mg base 4 "_law_k77_side" s__law_k77_side ["state", "name", "page", "number", "body", "side"] b__law_k77_side F__law_k77_side) (c__law_pick : DCal P w K mg base 3 "_law_pick" s__law_pick ["state", "several"] b__law_pick F__law_pick) (c_half_sum : DCal P w K mg base 1 "half_sum" s_half_sum ["text"] b_half_sum F_half_sum) (c_page_texts : DCal P w K mg base 3 "page_texts" s_page_texts ["name", "page", "number", "body"] b_page_texts F_page_texts) (c_sides_of : DCal P w K mg base 1 "sides_of" s_sides_of ["body"] b_sides_of F_sides_of) (c_state_of_halves : DCal P w K mg base 3 "state_of_halves" s_state_of_halves ["name", "page", "left", "right"] b_state_of_halves F_state_of_halves) (m_len : mg "len" = none) (m_min : mg "min" = none) (m_range : mg "range" = none) (m_repr : mg "repr" = none) (m_tuple : mg "tuple" = none) : FnG P w K mg base (L2.CX P w) (4 + 1) f fd ["script"] (spD K mg (["script"] : List Str).length b_law (runF (["script"] : List Str).length (["script", "state", "turn", "name", "page", "number", "body", "due", "middle", "side", "other", "wrong", "left", "right", "told"] : List Str).length b_law d_law)) := by
  exact fn_data (k := 4) (br := b_law) (fb := d_law) Fn sc_law rfl (by decide) fun cdv A outer s H E hgu hr =>
    have hu := hr.units
    have tk := takes_of (X := cxOf (L2.CX P w) P w K mg base ["script", "state", "turn", "name", "page", "number", "body", "due", "middle", "side", "other", "wrong", "left", "right", "told"] "law" (defScope s_law) f cdv A outer s H E) (E := E) rfl rfl rfl rfl
    (dss_cons (ds_setM (i := 1) sc_law.nd (em_call c__law_begun hgu hr (by decide) tk (ea_cons (ev_var (pv 0)) ea_nil))) (dss_cons (ds_for (passes_of rfl) rfl (di_range1 m_range (ea_cons (ev_add ev_int (ev_min2 rfl m_min (ea_cons (ev_len m_len (eb_of (ev_var (pv 0)))) (ea_cons ev_int ea_nil)))) ea_nil)) (dg_name (i := 2) sc_law.nd) (dss_cons (ds_par (i := 3) (j := 4) rfl sc_law.nd (ea_cons (ev_em (em_call c__law_pick hgu hr (by decide) tk (ea_slot (pv 1) (ea_cons (ev_lst (ea_cons ev_str (ea_cons ev_str (ea_cons ev_str (ea_cons (ev_mulA ev_str ev_int) ea_nil))))) ea_nil)))) (ea_cons (ev_em (em_call c__law_pick hgu hr (by decide) tk (ea_slot (pv 1) (ea_cons (ev_lst (ea_cons ev_int (ea_cons ev_int (ea_cons ev_int (ea_cons (ev_pow ev_int ev_int) ea_nil))))) ea_nil)))) ea_nil))) (dss_cons (ds_par (i := 5) (j := 6) rfl sc_law.nd (ea_cons (ev_em (em_call c__law_pick hgu hr (by decide) tk (ea_slot (pv 1) (ea_cons (ev_lst (ea_cons ev_int (ea_cons ev_int (ea_cons ev_int (ea_cons (ev_pow ev_int ev_int) ea_nil))))) ea_nil)))) (ea_cons (ev_em (em_call c__law_dk_text hgu hr (by decide) tk (ea_slot (pv 1) (ea_cons (ev_em (em_call c__law_pick hgu hr (by decide) tk (ea_slot (pv 1) (ea_cons (ev_lst (ea_cons ev_int (ea_cons ev_int (ea_cons ev_int (ea_cons ev_int (ea_cons ev_int ea_nil)))))) ea_nil)))) ea_nil)))) ea_nil))) (dss_cons (ds_par (i := 7) (j := 8) rfl sc_law.nd (ea_cons (ev_em (em_call c__law_dk_both hgu hr (by decide) tk (ea_cons (ev_var (pv 3)) (ea_cons (ev_var (pv 4)) (ea_cons (ev_var (pv 5)) (ea_cons (ev_var (pv 6)) ea_nil)))))) (ea_cons (ev_sub (ev_len m_len (eb_of (ev_var (pv 6)))) (ev_div (ev_len m_len (eb_of (ev_var (pv 6)))) ev_int)) ea_nil))) (dss_cons (ds_if (et_ne hu (ev_repr hgu hu m_repr (eb_of (ev_lst (ea_cons (ev_em (em_call c_sides_of hgu hr (by decide) tk (ea_cons (ev_var (pv 6)) ea_nil))) (ea_cons (ev_em (em_callK (ks := ["body"]) (is := [0]) c_sides_of hgu hr (by decide) tk (ek_cons (ev_var (pv 6)) ek_nil) (fun kV doc pm an cdv ct => ⟨fun s ws us _ hl e => match ws, hl with | [v0], _ => by cases e; exact .of_eq rfl⟩))) ea_nil))))) (eb_of (ev_repr hgu hu m_repr (eb_of (ev_mulA (ev_lst (ea_cons (ev_tup (ea_cons (ev_slice (ev_var (pv 6)) eo_none (eo_some (eb_of (ev_var (pv 8))))) (ea_cons (ev_slice (ev_var (pv 6)) (eo_some (eb_of (ev_var (pv 8)))) eo_none) ea_nil))) ea_nil)) ev_int))))) (dss_one (ds_ret (em_ev ev_bl))) dss_nil) (dss_cons (ds_if (et_ne hu (ev_repr hgu hu m_repr (eb_of (ev_lst (ea_cons (ev_em (em_call c_page_texts hgu hr (by decide) tk (ea_cons (ev_var (pv 3)) (ea_cons (ev_var (pv 4)) (ea_cons (ev_var (pv 5)) (ea_cons (ev_var (pv 6)) ea_nil)))))) (ea_cons (ev_em (em_callK (ks := ["body", "number", "page", "name"]) (is := [3, 2, 1, 0]) c_page_texts hgu hr (by decide) tk (ek_cons (ev_var (pv 6)) (ek_cons (ev_var (pv 5)) (ek_cons (ev_var (pv 4)) (ek_cons (ev_var (pv 3)) ek_nil)))) (fun kV doc pm an cdv ct => ⟨fun s ws us _ hl e => match ws, hl with | [v0, v1, v2, v3], _ => by cases e; exact .of_eq rfl⟩))) ea_nil))))) (eb_of (ev_repr hgu hu m_repr (eb_of (ev_mulA (ev_lst (ea_cons (ev_tuple m_tuple (ev_var (pv 7))) ea_nil)) ev_int))))) (dss_one (ds_ret (em_ev ev_bl))) dss_nil) (dss_cons (ds_if (et_ne hu (ev_repr hgu hu m_repr (eb_of (ev_lst (ea_cons (ev_em (em_call c_half_sum hgu hr (by decide) tk (ea_cons (ev_var (pv 6)) ea_nil))) (ea_cons (ev_em (em_callK (ks := ["text"]) (is := [0]) c_half_sum hgu hr (by decide) tk (ek_cons (ev_at (ev_var (pv 7)) ev_int) ek_nil) (fun kV doc pm an cdv ct => ⟨fun s ws us _ hl e => match ws, hl with | [v0], _ => by cases e; exact .of_eq rfl⟩))) ea_nil))))) (eb_of (ev_repr hgu hu m_repr (eb_of (ev_lst (ea_cons (ev_em (em_call c__law_dk_sum hgu hr (by decide) tk (ea_cons (ev_var (pv 6)) ea_nil))) (ea_cons (ev_em (em_call c__law_dk_sum hgu hr (by decide) tk (ea_cons (ev_at (ev_var (pv 7)) ev_int) ea_nil))) ea_nil))))))) (dss_one (ds_ret (em_ev ev_bl))) dss_nil) (dss_cons (ds_for (passes_of rfl) rfl (di_list (ev_lst (ea_cons ev_int (ea_cons ev_int ea_nil)))) (dg_name (i := 9) sc_law.nd) (dss_one (ds_if (et_not (et_val (eb_of (ev_em (em_call c__law_k77_side hgu hr (by decide) tk (ea_slot (pv 1) (ea_cons (ev_var (pv 3)) (ea_cons (ev_var (pv 4)) (ea_cons (ev_var (pv 5)) (ea_cons (ev_var (pv 6)) (ea_cons (ev_var (pv 9)) ea_nil))))))))))) (dss_one (ds_ret (em_ev ev_bl))) dss_nil))) (dss_cons (ds_set (i := 10) sc_law.nd (ev_em (em_call c__law_dk_both hgu hr (by decide) tk (ea_cons (ev_var (pv 3)) (ea_cons (ev_var (pv 4)) (ea_cons (ev_add (ev_add (ev_var (pv 5)) ev_int) (ev_em (em_call c__law_draw hgu hr (by decide) tk (ea_slot (pv 1) (ea_cons ev_int ea_nil))))) (ea_cons (ev_em (em_call c__law_dk_text hgu hr (by decide) tk (ea_slot (pv 1) (ea_cons ev_int ea_nil)))) ea_nil))))))) (dss_cons (ds_set (i := 11) sc_law.nd (ev_lst (ea_cons (ev_add (ev_slice (ev_at (ev_var (pv 7)) ev_int) eo_none (eo_some (eb_of (ev_neg ev_int)))) (ev_ifx (et_ne hu (ev_at (ev_at (ev_var (pv 7)) ev_int) (ev_neg ev_int)) (eb_of ev_str)) ev_str ev_str)) (ea_cons (ev_add (ev_slice (ev_at (ev_var (pv 7)) ev_int) eo_none (eo_some (eb_of (ev_neg ev_int)))) (ev_ifx (et_ne hu (ev_at (ev_at (ev_var (pv 7)) ev_int) (ev_neg ev_int)) (eb_of ev_str)) ev_str ev_str)) ea_nil)))) (dss_one (ds_for (passes_of rfl) rfl (di_list (ev_lst (ea_cons (ev_at (ev_var (pv 7)) ev_int) (ea_cons (ev_at (ev_var (pv 10)) ev_int) (ea_cons ev_str (ea_cons (ev_at (ev_var (pv 11)) ev_int) (ea_cons (ev_at (ev_var (pv 7)) ev_int) ea_nil))))))) (dg_name (i := 12) sc_law.nd) (dss_one (ds_for (passes_of rfl) rfl (di_list (ev_lst (ea_cons (ev_at (ev_var (pv 7)) ev_int) (ea_cons (ev_at (ev_var (pv 10)) ev_int) (ea_cons ev_str (ea_cons (ev_at (ev_var (pv 11)) ev_int) (ea_cons (ev_at (ev_var (pv 7)) ev_int) ea_nil))))))) (dg_name (i := 13) sc_law.nd) (dss_cons (ds_set (i := 14) sc_law.nd (ev_em (em_call c__law_dk_state hgu hr (by decide) tk (ea_cons (ev_var (pv 3)) (ea_cons (ev_var (pv 4)) (ea_cons (ev_lst (ea_cons (ev_var (pv 12)) (ea_cons (ev_var (pv 13)) ea_nil))) ea_nil)))))) (dss_one (ds_if (et_ne hu (ev_repr hgu hu m_repr (eb_of (ev_lst (ea_cons (ev_em (em_call c_state_of_halves hgu hr (by decide) tk (ea_cons (ev_var (pv 3)) (ea_cons (ev_var (pv 4)) (ea_cons (ev_var (pv 12)) (ea_cons (ev_var (pv 13)) ea_nil)))))) (ea_cons (ev_em (em_callK (ks := ["right", "left", "page", "name"]) (is := [3, 2, 1, 0]) c_state_of_halves hgu hr (by decide) tk (ek_cons (ev_var (pv 13)) (ek_cons (ev_var (pv 12)) (ek_cons (ev_var (pv 4)) (ek_cons (ev_var (pv 3)) ek_nil)))) (fun kV doc pm an cdv ct => ⟨fun s ws us _ hl e => match ws, hl with | [v0, v1, v2, v3], _ => by cases e; exact .of_eq rfl⟩))) ea_nil))))) (eb_of (ev_repr hgu hu m_repr (eb_of (ev_lst (ea_cons (ev_var (pv 14)) (ea_cons (ev_var (pv 14)) ea_nil))))))) (dss_one (ds_ret (em_ev ev_bl))) dss_nil))))))))))))))))) (dss_one (ds_ret (em_ev (ev_and (ev_eq hu (ev_em (em_call c_half_sum hgu hr (by decide) tk (ea_cons ev_str ea_nil))) (eb_of ev_int)) (ev_one1 (ev_eq hu (ev_em (em_call c_half_sum hgu hr (by decide) tk (ea_cons ev_str ea_nil))) (eb_of (ev_add ev_int (ev_mul ev_int ev_int)))))))))))
end
end DL.K77
set_option Elab.async false
set_option linter.all false
set_option maxRecDepth 100000
set_option maxHeartbeats 1000000
namespace DL.K77
open PySem PySem.Spec PyProof.Rows L2
theorem lg2 : Nat.log2 2 = 1 := by decide +kernel
theorem lg5 : Nat.log2 5 = 2 := by decide +kernel
theorem lg71 : Nat.log2 71 = 6 := by decide +kernel
theorem lg80 : Nat.log2 80 = 6 := by decide +kernel
theorem lg68909 : Nat.log2 68909 = 16 := by decide +kernel
theorem lg41491 : Nat.log2 41491 = 15 := by decide +kernel
theorem lgM : Nat.log2 2147483647 = 30 := by decide +kernel
theorem e_sides_of (x : Str) (h : x.length < sizeLine) : F_sides_of [.d (.str x)] = .ok (.d (.tuple [.str (cutS x none (some ((x.length + 1 : Int) / 2))), .str (cutS x (some ((x.length + 1 : Int) / 2)) none)])) [] := by
  have hs : sizeLine = 16777216 := sizeLine_eq
  have h1 : x.length ≤ 16777216 := by omega
  simp [F_sides_of, d_sides_of, b_sides_of, runF, fSeq, thenF, fSetV, fSetM, f2, f1, fVar, slot, fC, fRet, fUp, fTup, fLst, fConsA, fNilA, fSlotA, fSl, fNoPart, fPart, fFrz, fCall, fCallK, fCall0, callA, slotsOf, argMs, clrE, putE, isS, fIf, fAnd, fOr, fNot, fB, bD, fAndV, fOrV, fIt, itD, itT, itS, fItA, fFor, fPar, fAsg, gT, gCons, gNil, gN, fDrop, fBor, fPthD, fPthB, atP, getM, lookM, putAt, setK, fPutK, fPop0, fMove, fDct, fPs, fPs0, fNil2, fLstM, fStill, still, fNx, fJoined, fJ, fJ0, onS, f2S, f1S, fYes, fParMV, frz, frzs, frzk, argD, outs, gI, gAdd, gSub, gDiv, gMod, gMul, gPow, gNeg, gLen, gAbs, gSl, intD, gIx, fArgs, g2I, wipeE, R.bind, R.of, gCmp, gLt, gLe, gGt, gGe, gIs, gIsNot, gInt, lcTurn, forTurn, sizeLine_eq, lg2, lg71, lg68909, lg41491, lgM, lg80, lg5, h1]
/-! ### the source of draws -/
theorem kn_great_cells : (Str.ofString "great" = Str.ofString "cells") = False := eq_false (by decide)
theorem kn_great_left : (Str.ofString "great" = Str.ofString "left") = False := eq_false (by decide)
theorem kn_great_turn : (Str.ofString "great" = Str.ofString "turn") = False := eq_false (by decide)
theorem kn_cells_great : (Str.ofString "cells" = Str.ofString "great") = False := eq_false (by decide)
theorem kn_cells_left : (Str.ofString "cells" = Str.ofString "left") = False := eq_false (by decide)
theorem kn_cells_turn : (Str.ofString "cells" = Str.ofString "turn") = False := eq_false (by decide)
theorem kn_left_great : (Str.ofString "left" = Str.ofString "great") = False := eq_false (by decide)
theorem kn_left_cells : (Str.ofString "left" = Str.ofString "cells") = False := eq_false (by decide)
theorem kn_left_turn : (Str.ofString "left" = Str.ofString "turn") = False := eq_false (by decide)
theorem kn_turn_great : (Str.ofString "turn" = Str.ofString "great") = False := eq_false (by decide)
theorem kn_turn_cells : (Str.ofString "turn" = Str.ofString "cells") = False := eq_false (by decide)
theorem kn_turn_left : (Str.ofString "turn" = Str.ofString "left") = False := eq_false (by decide)

def stM (great cells : List Int) (left turn : Int) : M := .dct [(.inr "great", .lst (great.map fun i => .d (.int i))), (.inr "cells", .d (.list (cells.map .int))), (.inr "left", .d (.int left)), (.inr "turn", .d (.int turn))]
structure Good (m : M) : Prop where
  ex : ∃ great cells left turn, m = stM great cells left turn ∧ (∀ i ∈ great, 0 ≤ i) ∧ (∀ i ∈ cells, 0 ≤ i) ∧ 0 ≤ left ∧ 0 ≤ turn ∧ turn ≤ 0
theorem frzs_md {α : Type} (f : α → D) : ∀ l : List α, frzs (l.map fun a => M.d (f a)) = l.map f
  | [] => by rw [List.map_nil, frzs]; rfl
  | a :: l => by rw [List.map_cons, frzs, frz, frzs_md f l]; rfl
theorem frz_md {α : Type} (f : α → D) (l : List α) : frz (.lst (l.map fun a => M.d (f a))) = .list (l.map f) := by rw [frz, frzs_md]
def greatOf (i : Int) : Option Int := if (1000000000000000000 : Int) ≤ (if i < 0 then -i else i) then some ((if i < 0 then -i else i) - 1000000000000000000) else none
def onI (f : Int → Option D) : D → Option D
  | .int i => f i
  | _ => none
theorem onI_map (f : Int → Option D) (ns : List Int) : (ns.map PyData.int).filterMap (onI f) = ns.filterMap f := by
  rw [List.filterMap_map]
  rfl
theorem e_begun (ns : List Int) (h : ns.length ≤ 63) : ∃ m, F__law_begun [.d (.list (ns.map .int))] = .ok m [] ∧ Good m := by
  have hs : sizeLine = 16777216 := sizeLine_eq
  have h1 := lcL_map (own := [2]) (g := gN 2) (fc := fB (f2 gGe (f1 gAbs (fVar 2)) (f2 gPow (fC (.int 10)) (fC (.int 18))))) (fe := f2 gSub (f1 gAbs (fVar 2)) (f2 gPow (fC (.int 10)) (fC (.int 18)))) (ds := ns.map .int) (e := [some (.d (.list (ns.map .int))), none, none])
    (onI fun i => (greatOf i).map .int) (by simp; omega) (fun d hd => by
      obtain ⟨i, _, rfl⟩ := List.mem_map.mp hd
      by_cases hc : (1000000000000000000 : Int) ≤ (if i < 0 then -i else i)
      · simp [runF, fSeq, thenF, fSetV, fSetM, f2, f1, fVar, slot, fC, fRet, fUp, fTup, fLst, fConsA, fNilA, fSlotA, fSl, fNoPart, fPart, fFrz, fCall, fCallK, fCall0, callA, slotsOf, argMs, clrE, putE, isS, fIf, fAnd, fOr, fNot, fB, bD, fAndV, fOrV, fIt, itD, itT, itS, fItA, fFor, fPar, fAsg, gT, gCons, gNil, gN, fDrop, fBor, fPthD, fPthB, atP, getM, lookM, putAt, setK, fPutK, fPop0, fMove, fDct, fPs, fPs0, fNil2, fLstM, fStill, still, fNx, fJoined, fJ, fJ0, onS, f2S, f1S, fYes, fParMV, frz, frzs, frzk, argD, outs, gI, gAdd, gSub, gDiv, gMod, gMul, gPow, gNeg, gLen, gAbs, gSl, intD, gIx, fArgs, g2I, wipeE, R.bind, R.of, gCmp, gLt, gLe, gGt, gGe, gIs, gIsNot, gInt, lcTurn, forTurn, sizeLine_eq, lg2, lg71, lg68909, lg41491, lgM, lg80, lg5, greatOf, onI, hc]
      · simp [runF, fSeq, thenF, fSetV, fSetM, f2, f1, fVar, slot, fC, fRet, fUp, fTup, fLst, fConsA, fNilA, fSlotA, fSl, fNoPart, fPart, fFrz, fCall, fCallK, fCall0, callA, slotsOf, argMs, clrE, putE, isS, fIf, fAnd, fOr, fNot, fB, bD, fAndV, fOrV, fIt, itD, itT, itS, fItA, fFor, fPar, fAsg, gT, gCons, gNil, gN, fDrop, fBor, fPthD, fPthB, atP, getM, lookM, putAt, setK, fPutK, fPop0, fMove, fDct, fPs, fPs0, fNil2, fLstM, fStill, still, fNx, fJoined, fJ, fJ0, onS, f2S, f1S, fYes, fParMV, frz, frzs, frzk, argD, outs, gI, gAdd, gSub, gDiv, gMod, gMul, gPow, gNeg, gLen, gAbs, gSl, intD, gIx, fArgs, g2I, wipeE, R.bind, R.of, gCmp, gLt, gLe, gGt, gGe, gIs, gIsNot, gInt, lcTurn, forTurn, sizeLine_eq, lg2, lg71, lg68909, lg41491, lgM, lg80, lg5, greatOf, onI, hc])
  have h2 : (ns.filterMap fun i => (greatOf i).map PyData.int) = (ns.filterMap greatOf).map PyData.int := by rw [List.map_filterMap]
  rw [onI_map, h2] at h1
  have h3 := lcL_map (own := [2]) (g := gN 2) (fc := fYes) (fe := f1 gAbs (fVar 2)) (ds := ns.map .int) (e := [some (.d (.list (ns.map .int))), none, none])
    (onI fun i => some (.int (if i < 0 then -i else i))) (by simp; omega) (fun d hd => by
      obtain ⟨i, _, rfl⟩ := List.mem_map.mp hd
      simp [runF, fSeq, thenF, fSetV, fSetM, f2, f1, fVar, slot, fC, fRet, fUp, fTup, fLst, fConsA, fNilA, fSlotA, fSl, fNoPart, fPart, fFrz, fCall, fCallK, fCall0, callA, slotsOf, argMs, clrE, putE, isS, fIf, fAnd, fOr, fNot, fB, bD, fAndV, fOrV, fIt, itD, itT, itS, fItA, fFor, fPar, fAsg, gT, gCons, gNil, gN, fDrop, fBor, fPthD, fPthB, atP, getM, lookM, putAt, setK, fPutK, fPop0, fMove, fDct, fPs, fPs0, fNil2, fLstM, fStill, still, fNx, fJoined, fJ, fJ0, onS, f2S, f1S, fYes, fParMV, frz, frzs, frzk, argD, outs, gI, gAdd, gSub, gDiv, gMod, gMul, gPow, gNeg, gLen, gAbs, gSl, intD, gIx, fArgs, g2I, wipeE, R.bind, R.of, gCmp, gLt, gLe, gGt, gGe, gIs, gIsNot, gInt, lcTurn, forTurn, sizeLine_eq, lg2, lg71, lg68909, lg41491, lgM, lg80, lg5, onI])
  have h4 : (ns.filterMap fun i => some (PyData.int (if i < 0 then -i else i))) = (ns.map fun i => if i < 0 then -i else i).map PyData.int := by
    rw [List.map_map, ← List.filterMap_eq_map]
    rfl
  rw [onI_map, h4] at h3
  refine ⟨stM (ns.filterMap greatOf) (ns.map fun i => if i < 0 then -i else i) 0 0, ?_, _, _, _, _, rfl, ?_, ?_, Int.le_refl _, Int.le_refl _, Int.le_refl _⟩
  · simp [runF, fSeq, thenF, fSetV, fSetM, f2, f1, fVar, slot, fC, fRet, fUp, fTup, fLst, fConsA, fNilA, fSlotA, fSl, fNoPart, fPart, fFrz, fCall, fCallK, fCall0, callA, slotsOf, argMs, clrE, putE, isS, fIf, fAnd, fOr, fNot, fB, bD, fAndV, fOrV, fIt, itD, itT, itS, fItA, fFor, fPar, fAsg, gT, gCons, gNil, gN, fDrop, fBor, fPthD, fPthB, atP, getM, lookM, putAt, setK, fPutK, fPop0, fMove, fDct, fPs, fPs0, fNil2, fLstM, fStill, still, fNx, fJoined, fJ, fJ0, onS, f2S, f1S, fYes, fParMV, frz, frzs, frzk, argD, outs, gI, gAdd, gSub, gDiv, gMod, gMul, gPow, gNeg, gLen, gAbs, gSl, intD, gIx, fArgs, g2I, wipeE, R.bind, R.of, gCmp, gLt, gLe, gGt, gGe, gIs, gIsNot, gInt, lcTurn, forTurn, sizeLine_eq, lg2, lg71, lg68909, lg41491, lgM, lg80, lg5] at h1 h3
    simp [F__law_begun, d__law_begun, b__law_begun, fLc, runF, fSeq, thenF, fSetV, fSetM, f2, f1, fVar, slot, fC, fRet, fUp, fTup, fLst, fConsA, fNilA, fSlotA, fSl, fNoPart, fPart, fFrz, fCall, fCallK, fCall0, callA, slotsOf, argMs, clrE, putE, isS, fIf, fAnd, fOr, fNot, fB, bD, fAndV, fOrV, fIt, itD, itT, itS, fItA, fFor, fPar, fAsg, gT, gCons, gNil, gN, fDrop, fBor, fPthD, fPthB, atP, getM, lookM, putAt, setK, fPutK, fPop0, fMove, fDct, fPs, fPs0, fNil2, fLstM, fStill, still, fNx, fJoined, fJ, fJ0, onS, f2S, f1S, fYes, fParMV, frz, frzs, frzk, argD, outs, gI, gAdd, gSub, gDiv, gMod, gMul, gPow, gNeg, gLen, gAbs, gSl, intD, gIx, fArgs, g2I, wipeE, R.bind, R.of, gCmp, gLt, gLe, gGt, gGe, gIs, gIsNot, gInt, lcTurn, forTurn, sizeLine_eq, lg2, lg71, lg68909, lg41491, lgM, lg80, lg5, stM, h1, h3, Function.comp_def, frz_md, frzs_md, kn_great_cells, kn_great_left, kn_great_turn, kn_cells_great, kn_cells_left, kn_cells_turn, kn_left_great, kn_left_cells, kn_left_turn, kn_turn_great, kn_turn_cells, kn_turn_left]
  · intro i hi
    obtain ⟨j, _, hj⟩ := List.mem_filterMap.mp hi
    simp only [greatOf, Option.ite_none_right_eq_some, Option.some.injEq] at hj
    omega
  · intro i hi
    obtain ⟨j, _, rfl⟩ := List.mem_map.mp hi
    split <;> omega
/-! ### drawing -/
theorem shaped_ints (l : List Int) : SeqAt.shaped (.list (l.map .int)) = true := by
  have h : ∀ l : List Int, PyData.canLayAll0 (l.map .int) = true ∧ PyData.depthAll (l.map .int) = 0 := by
    intro l
    induction l with
    | nil => exact ⟨by simp [PyData.canLayAll0], by simp [PyData.depthAll]⟩
    | cons i r ih => simp [PyData.canLayAll0, PyData.canLay0, PyData.depthAll, PyData.depth, ih.1, ih.2]
  unfold SeqAt.shaped
  rw [PyData.canLay0, (h l).1, PyData.depth, (h l).2]
  decide
theorem shaped_nil : SeqAt.shaped (.list []) = true := shaped_ints []
theorem ne_nil (l : List Int) : gNe (.list (l.map .int)) (.list []) = some (.bool (!l.isEmpty)) := by
  have h1 := shaped_ints l
  have h2 := shaped_nil
  unfold gNe eqD
  dsimp only
  rw [if_pos ⟨h1, h2⟩]
  cases l <;> simp [PyData.eqv, PyData.eqvAll]
theorem eq_int (i j : Int) : gEq (.int i) (.int j) = some (.bool (decide (i = j))) := rfl
theorem frz_ints (l : List Int) : frz (.lst (l.map fun i => M.d (.int i))) = .list (l.map .int) := frz_md PyData.int l
/-- in fit state, at most b turns taken -/
structure Fit (b : Nat) (m : M) : Prop where
  ex : ∃ great cells left turn, m = stM great cells left turn ∧ (∀ i ∈ great, 0 ≤ i) ∧ (∀ i ∈ cells, 0 ≤ i) ∧ 0 ≤ left ∧ 0 ≤ turn ∧ turn ≤ b
theorem Fit.mono {b c : Nat} {m : M} (h : Fit b m) (hbc : b ≤ c) : Fit c m := by
  obtain ⟨g, ce, l, t, e, h1, h2, h3, h4, h5⟩ := h.ex
  exact ⟨g, ce, l, t, e, h1, h2, h3, h4, by omega⟩
theorem pow5_nn {i : Int} (h : 0 ≤ i) : 0 ≤ i ^ 5 := Int.pow_nonneg h
theorem e_blended {great cells : List Int} {left turn : Int} (hc : ∀ i ∈ cells, 0 ≤ i) (ht : 0 ≤ turn) (hb : turn < 1099511627776) : ∃ v, F__law_blended [stM great cells left turn] = .ok (.d (.int v)) [stM great cells left (turn + 1)] ∧ 0 ≤ v := by
  -- the loop over the primes
  have inner : ∀ (prime : Int) (found blend : Int) (x : Option M), (2147481907 : Int) ≤ prime → prime ≤ 2147481949 → 0 ≤ blend → blend < 18446744073709551616 → ∃ blend' x', forL (gN 5) (fSetV 4 (f2 gMod (f1 gInt (f2 gAdd (f2 gAdd (f2 gMul (fVar 4) (fC (.int 68909))) (fVar 5)) (fVar 1))) (fVar 3))) (cells.map .int)
      [some (stM great cells left (turn + 1)), some (.d (.int (turn + 1))), some (.d (.int found)), some (.d (.int prime)), some (.d (.int blend)), x] =
      .ok .nx [some (stM great cells left (turn + 1)), some (.d (.int (turn + 1))), some (.d (.int found)), some (.d (.int prime)), some (.d (.int blend')), x'] ∧ 0 ≤ blend' ∧ blend' < 18446744073709551616 := by
    intro prime found blend x hp1 hp2 hb1 hb2
    obtain ⟨e', h1, blend', x', h2, h3, h4⟩ := forL_inv (g := gN 5) (body := fSetV 4 (f2 gMod (f1 gInt (f2 gAdd (f2 gAdd (f2 gMul (fVar 4) (fC (.int 68909))) (fVar 5)) (fVar 1))) (fVar 3))) (ds := cells.map .int)
      (e := [some (stM great cells left (turn + 1)), some (.d (.int (turn + 1))), some (.d (.int found)), some (.d (.int prime)), some (.d (.int blend)), x])
      (fun e => ∃ blend' x', e = [some (stM great cells left (turn + 1)), some (.d (.int (turn + 1))), some (.d (.int found)), some (.d (.int prime)), some (.d (.int blend')), x'] ∧ 0 ≤ blend' ∧ blend' < 18446744073709551616)
      ⟨blend, x, rfl, hb1, hb2⟩ (fun d hd e he => by
        obtain ⟨c, _, rfl⟩ := List.mem_map.mp hd
        obtain ⟨bl, x2, rfl, g1, g2⟩ := he
        have hp : 0 < prime := by omega
        refine ⟨[some (stM great cells left (turn + 1)), some (.d (.int (turn + 1))), some (.d (.int found)), some (.d (.int prime)), some (.d (.int ((bl * 68909 + c + (turn + 1)) % prime))), some (.d (.int c))], ?_, _, _, rfl, Int.emod_nonneg _ (by omega), by have := Int.emod_lt_of_pos (bl * 68909 + c + (turn + 1)) hp; omega⟩
        simp [runF, fSeq, thenF, fSetV, fSetM, f2, f1, fVar, slot, fC, fRet, fUp, fTup, fLst, fConsA, fNilA, fSlotA, fSl, fNoPart, fPart, fFrz, fCall, fCallK, fCall0, callA, slotsOf, argMs, clrE, putE, isS, fIf, fAnd, fOr, fNot, fB, bD, fAndV, fOrV, fIt, itD, itT, itS, fItA, fFor, fPar, fAsg, gT, gCons, gNil, gN, fDrop, fBor, fPthD, fPthB, atP, getM, lookM, putAt, setK, fPutK, fPop0, fMove, fDct, fPs, fPs0, fNil2, fLstM, fStill, still, fNx, fJoined, fJ, fJ0, onS, f2S, f1S, fYes, fParMV, frz, frzs, frzk, argD, outs, gI, gAdd, gSub, gDiv, gMod, gMul, gPow, gNeg, gLen, gAbs, gSl, intD, gIx, fArgs, g2I, wipeE, R.bind, R.of, gCmp, gLt, gLe, gGt, gGe, gIs, gIsNot, gInt, lcTurn, forTurn, sizeLine_eq, lg2, lg71, lg68909, lg41491, lgM, lg80, lg5, hp])
    exact ⟨blend', x', by rw [h1, h2], h3, h4⟩
  have outer := forL_inv (g := gN 3) (body := fSeq (fSetV 4 (f2 gAdd (f2 gMul (fC (.int 41491)) (fVar 1)) (f2 gDiv (fVar 3) (fC (.int 71))))) (fSeq (fFor (fIt itD (fPthD 0 [.inr ("cells" : Str)])) (gN 5) (fSetV 4 (f2 gMod (f1 gInt (f2 gAdd (f2 gAdd (f2 gMul (fVar 4) (fC (.int 68909))) (fVar 5)) (fVar 1))) (fVar 3)))) (fSetV 2 (f2 gAdd (f2 gMul (fVar 2) (fC (.int 2147483647))) (f2 gMod (f1 gInt (f2 gPow (fVar 4) (fC (.int 5)))) (fVar 3))))))
    (ds := [.int 2147481949, .int 2147481937, .int 2147481907]) (e := [some (stM great cells left (turn + 1)), some (.d (.int (turn + 1))), some (.d (.int 0)), none, none, none])
    (fun e => ∃ found x y z, e = [some (stM great cells left (turn + 1)), some (.d (.int (turn + 1))), some (.d (.int found)), x, y, z] ∧ 0 ≤ found) ⟨0, none, none, none, rfl, Int.le_refl _⟩ (fun d hd e he => by
      obtain ⟨found, x, y, z, rfl, hf⟩ := he
      obtain ⟨prime, rfl, hp1, hp2⟩ : ∃ p : Int, d = .int p ∧ (2147481907 : Int) ≤ p ∧ p ≤ 2147481949 := by
        simp at hd
        rcases hd with rfl | rfl | rfl
        · exact ⟨_, rfl, by omega, by omega⟩
        · exact ⟨_, rfl, by omega, by omega⟩
        · exact ⟨_, rfl, by omega, by omega⟩
      obtain ⟨bl, x', h1, h2, h3⟩ := inner prime found (41491 * (turn + 1) + prime / 71) z hp1 hp2 (by omega) (by omega)
      have hp : 0 < prime := by omega
      have hn : bl.natAbs < 18446744073709551616 := by omega
      have hm := Int.emod_nonneg (bl ^ 5) (show prime ≠ 0 by omega)
      refine ⟨[some (stM great cells left (turn + 1)), some (.d (.int (turn + 1))), some (.d (.int (found * 2147483647 + bl ^ 5 % prime))), some (.d (.int prime)), some (.d (.int bl)), x'], ?_, _, _, _, _, rfl, by omega⟩
      simp [runF, fSeq, thenF, fSetV, fSetM, f2, f1, fVar, slot, fC, fRet, fUp, fTup, fLst, fConsA, fNilA, fSlotA, fSl, fNoPart, fPart, fFrz, fCall, fCallK, fCall0, callA, slotsOf, argMs, clrE, putE, isS, fIf, fAnd, fOr, fNot, fB, bD, fAndV, fOrV, fIt, itD, itT, itS, fItA, fFor, fPar, fAsg, gT, gCons, gNil, gN, fDrop, fBor, fPthD, fPthB, atP, getM, lookM, putAt, setK, fPutK, fPop0, fMove, fDct, fPs, fPs0, fNil2, fLstM, fStill, still, fNx, fJoined, fJ, fJ0, onS, f2S, f1S, fYes, fParMV, frz, frzs, frzk, argD, outs, gI, gAdd, gSub, gDiv, gMod, gMul, gPow, gNeg, gLen, gAbs, gSl, intD, gIx, fArgs, g2I, wipeE, R.bind, R.of, gCmp, gLt, gLe, gGt, gGe, gIs, gIsNot, gInt, lcTurn, forTurn, sizeLine_eq, lg2, lg71, lg68909, lg41491, lgM, lg80, lg5, stM, kn_great_cells, kn_great_left, kn_great_turn, kn_cells_great, kn_cells_left, kn_cells_turn, kn_left_great, kn_left_cells, kn_left_turn, kn_turn_great, kn_turn_cells, kn_turn_left] at h1
      simp [runF, fSeq, thenF, fSetV, fSetM, f2, f1, fVar, slot, fC, fRet, fUp, fTup, fLst, fConsA, fNilA, fSlotA, fSl, fNoPart, fPart, fFrz, fCall, fCallK, fCall0, callA, slotsOf, argMs, clrE, putE, isS, fIf, fAnd, fOr, fNot, fB, bD, fAndV, fOrV, fIt, itD, itT, itS, fItA, fFor, fPar, fAsg, gT, gCons, gNil, gN, fDrop, fBor, fPthD, fPthB, atP, getM, lookM, putAt, setK, fPutK, fPop0, fMove, fDct, fPs, fPs0, fNil2, fLstM, fStill, still, fNx, fJoined, fJ, fJ0, onS, f2S, f1S, fYes, fParMV, frz, frzs, frzk, argD, outs, gI, gAdd, gSub, gDiv, gMod, gMul, gPow, gNeg, gLen, gAbs, gSl, intD, gIx, fArgs, g2I, wipeE, R.bind, R.of, gCmp, gLt, gLe, gGt, gGe, gIs, gIsNot, gInt, lcTurn, forTurn, sizeLine_eq, lg2, lg71, lg68909, lg41491, lgM, lg80, lg5, stM, kn_great_cells, kn_great_left, kn_great_turn, kn_cells_great, kn_cells_left, kn_cells_turn, kn_left_great, kn_left_cells, kn_left_turn, kn_turn_great, kn_turn_cells, kn_turn_left, h1, hp, hn])
  obtain ⟨e', h1, found, x, y, z, rfl, hf⟩ := outer
  refine ⟨found, ?_, hf⟩
  simp [runF, fSeq, thenF, fSetV, fSetM, f2, f1, fVar, slot, fC, fRet, fUp, fTup, fLst, fConsA, fNilA, fSlotA, fSl, fNoPart, fPart, fFrz, fCall, fCallK, fCall0, callA, slotsOf, argMs, clrE, putE, isS, fIf, fAnd, fOr, fNot, fB, bD, fAndV, fOrV, fIt, itD, itT, itS, fItA, fFor, fPar, fAsg, gT, gCons, gNil, gN, fDrop, fBor, fPthD, fPthB, atP, getM, lookM, putAt, setK, fPutK, fPop0, fMove, fDct, fPs, fPs0, fNil2, fLstM, fStill, still, fNx, fJoined, fJ, fJ0, onS, f2S, f1S, fYes, fParMV, frz, frzs, frzk, argD, outs, gI, gAdd, gSub, gDiv, gMod, gMul, gPow, gNeg, gLen, gAbs, gSl, intD, gIx, fArgs, g2I, wipeE, R.bind, R.of, gCmp, gLt, gLe, gGt, gGe, gIs, gIsNot, gInt, lcTurn, forTurn, sizeLine_eq, lg2, lg71, lg68909, lg41491, lgM, lg80, lg5, stM, kn_great_cells, kn_great_left, kn_great_turn, kn_cells_great, kn_cells_left, kn_cells_turn, kn_left_great, kn_left_cells, kn_left_turn, kn_turn_great, kn_turn_cells, kn_turn_left] at h1
  simp [F__law_blended, d__law_blended, b__law_blended, runF, fSeq, thenF, fSetV, fSetM, f2, f1, fVar, slot, fC, fRet, fUp, fTup, fLst, fConsA, fNilA, fSlotA, fSl, fNoPart, fPart, fFrz, fCall, fCallK, fCall0, callA, slotsOf, argMs, clrE, putE, isS, fIf, fAnd, fOr, fNot, fB, bD, fAndV, fOrV, fIt, itD, itT, itS, fItA, fFor, fPar, fAsg, gT, gCons, gNil, gN, fDrop, fBor, fPthD, fPthB, atP, getM, lookM, putAt, setK, fPutK, fPop0, fMove, fDct, fPs, fPs0, fNil2, fLstM, fStill, still, fNx, fJoined, fJ, fJ0, onS, f2S, f1S, fYes, fParMV, frz, frzs, frzk, argD, outs, gI, gAdd, gSub, gDiv, gMod, gMul, gPow, gNeg, gLen, gAbs, gSl, intD, gIx, fArgs, g2I, wipeE, R.bind, R.of, gCmp, gLt, gLe, gGt, gGe, gIs, gIsNot, gInt, lcTurn, forTurn, sizeLine_eq, lg2, lg71, lg68909, lg41491, lgM, lg80, lg5, stM, kn_great_cells, kn_great_left, kn_great_turn, kn_cells_great, kn_cells_left, kn_cells_turn, kn_left_great, kn_left_cells, kn_left_turn, kn_turn_great, kn_turn_cells, kn_turn_left, h1]
theorem Fit.st {great cells : List Int} {left turn : Int} {b : Nat} (h1 : ∀ i ∈ great, 0 ≤ i) (h2 : ∀ i ∈ cells, 0 ≤ i) (h3 : 0 ≤ left) (h4 : 0 ≤ turn) (h5 : turn ≤ b) : Fit b (stM great cells left turn) := ⟨great, cells, left, turn, rfl, h1, h2, h3, h4, h5⟩
theorem e_draw {m : M} {b : Nat} (h : Fit b m) (hb : b < 1000000000000) (n : Int) (hn : 0 < n) (hn2 : n < 1073741824) : ∃ r m', F__law_draw [m, .d (.int n)] = .ok (.d (.int r)) [m'] ∧ 0 ≤ r ∧ r < n ∧ Fit (b + 1) m' := by
  obtain ⟨great, cells, left, turn, rfl, h1, h2, h3, h4, h5⟩ := h.ex
  -- what is left to be taken from
  have rest : ∀ {great : List Int} {left turn : Int}, (∀ i ∈ great, 0 ≤ i) → 0 ≤ left → 0 ≤ turn → turn ≤ ((b + 1 : Nat) : Int) → ∃ r m', (fSeq (fSetV 2 (f2 gMod (f1 gInt (fPthB 0 [.inr ("left" : Str)])) (fVar 1))) (fSeq (fPutK 0 [] (.inr ("left" : Str)) (fUp (f2 gDiv (fPthD 0 [.inr ("left" : Str)]) (fVar 1)))) (fRet (fUp (fVar 2)))))
      [some (stM great cells left turn), some (.d (.int n)), none] = .ok (.rt (.d (.int r))) [some m', some (.d (.int n)), some (.d (.int r))] ∧ 0 ≤ r ∧ r < n ∧ Fit (b + 1) m' := by
    intro great left turn g1 g2 g3 g4
    refine ⟨left % n, stM great cells (left / n) turn, ?_, Int.emod_nonneg _ (by omega), Int.emod_lt_of_pos _ hn, Fit.st g1 h2 (Int.ediv_nonneg g2 (by omega)) g3 g4⟩
    have hn3 : n.natAbs.log2 < 30 := log2_of_lt (by decide) (by omega)
    simp [runF, fSeq, thenF, fSetV, fSetM, f2, f1, fVar, slot, fC, fRet, fUp, fTup, fLst, fConsA, fNilA, fSlotA, fSl, fNoPart, fPart, fFrz, fCall, fCallK, fCall0, callA, slotsOf, argMs, clrE, putE, isS, fIf, fAnd, fOr, fNot, fB, bD, fAndV, fOrV, fIt, itD, itT, itS, fItA, fFor, fPar, fAsg, gT, gCons, gNil, gN, fDrop, fBor, fPthD, fPthB, atP, getM, lookM, putAt, setK, fPutK, fPop0, fMove, fDct, fPs, fPs0, fNil2, fLstM, fStill, still, fNx, fJoined, fJ, fJ0, onS, f2S, f1S, fYes, fParMV, frz, frzs, frzk, argD, outs, gI, gAdd, gSub, gDiv, gMod, gMul, gPow, gNeg, gLen, gAbs, gSl, intD, gIx, fArgs, g2I, wipeE, R.bind, R.of, gCmp, gLt, gLe, gGt, gGe, gIs, gIsNot, gInt, lcTurn, forTurn, sizeLine_eq, lg2, lg71, lg68909, lg41491, lgM, lg80, lg5, stM, kn_great_cells, kn_great_left, kn_great_turn, kn_cells_great, kn_cells_left, kn_cells_turn, kn_left_great, kn_left_cells, kn_left_turn, kn_turn_great, kn_turn_cells, kn_turn_left, hn, hn3]
  by_cases hl : left = 0
  · subst hl
    cases great with
    | nil =>
      obtain ⟨v, e1, hv⟩ := e_blended (great := []) (left := 0) h2 h4 (by omega)
      obtain ⟨r, m', e2, r1, r2, r3⟩ := rest (great := []) (left := v) (turn := turn + 1) (by simp) hv (by omega) (by omega)
      refine ⟨r, m', ?_, r1, r2, r3⟩
      have e3 := ne_nil []
      simp [runF, fSeq, thenF, fSetV, fSetM, f2, f1, fVar, slot, fC, fRet, fUp, fTup, fLst, fConsA, fNilA, fSlotA, fSl, fNoPart, fPart, fFrz, fCall, fCallK, fCall0, callA, slotsOf, argMs, clrE, putE, isS, fIf, fAnd, fOr, fNot, fB, bD, fAndV, fOrV, fIt, itD, itT, itS, fItA, fFor, fPar, fAsg, gT, gCons, gNil, gN, fDrop, fBor, fPthD, fPthB, atP, getM, lookM, putAt, setK, fPutK, fPop0, fMove, fDct, fPs, fPs0, fNil2, fLstM, fStill, still, fNx, fJoined, fJ, fJ0, onS, f2S, f1S, fYes, fParMV, frz, frzs, frzk, argD, outs, gI, gAdd, gSub, gDiv, gMod, gMul, gPow, gNeg, gLen, gAbs, gSl, intD, gIx, fArgs, g2I, wipeE, R.bind, R.of, gCmp, gLt, gLe, gGt, gGe, gIs, gIsNot, gInt, lcTurn, forTurn, sizeLine_eq, lg2, lg71, lg68909, lg41491, lgM, lg80, lg5, stM, kn_great_cells, kn_great_left, kn_great_turn, kn_cells_great, kn_cells_left, kn_cells_turn, kn_left_great, kn_left_cells, kn_left_turn, kn_turn_great, kn_turn_cells, kn_turn_left] at e1 e2 e3
      simp [F__law_draw, d__law_draw, b__law_draw, b__law_blended, runF, fSeq, thenF, fSetV, fSetM, f2, f1, fVar, slot, fC, fRet, fUp, fTup, fLst, fConsA, fNilA, fSlotA, fSl, fNoPart, fPart, fFrz, fCall, fCallK, fCall0, callA, slotsOf, argMs, clrE, putE, isS, fIf, fAnd, fOr, fNot, fB, bD, fAndV, fOrV, fIt, itD, itT, itS, fItA, fFor, fPar, fAsg, gT, gCons, gNil, gN, fDrop, fBor, fPthD, fPthB, atP, getM, lookM, putAt, setK, fPutK, fPop0, fMove, fDct, fPs, fPs0, fNil2, fLstM, fStill, still, fNx, fJoined, fJ, fJ0, onS, f2S, f1S, fYes, fParMV, frz, frzs, frzk, argD, outs, gI, gAdd, gSub, gDiv, gMod, gMul, gPow, gNeg, gLen, gAbs, gSl, intD, gIx, fArgs, g2I, wipeE, R.bind, R.of, gCmp, gLt, gLe, gGt, gGe, gIs, gIsNot, gInt, lcTurn, forTurn, sizeLine_eq, lg2, lg71, lg68909, lg41491, lgM, lg80, lg5, stM, kn_great_cells, kn_great_left, kn_great_turn, kn_cells_great, kn_cells_left, kn_cells_turn, kn_left_great, kn_left_cells, kn_left_turn, kn_turn_great, kn_turn_cells, kn_turn_left, eq_int, e1, e2, e3]
    | cons g gs =>
      obtain ⟨r, m', e2, r1, r2, r3⟩ := rest (great := gs) (left := g) (turn := turn) (fun i hi => h1 i (List.mem_cons_of_mem _ hi)) (h1 g List.mem_cons_self) h4 (by omega)
      refine ⟨r, m', ?_, r1, r2, r3⟩
      have e3 := ne_nil (g :: gs)
      simp [runF, fSeq, thenF, fSetV, fSetM, f2, f1, fVar, slot, fC, fRet, fUp, fTup, fLst, fConsA, fNilA, fSlotA, fSl, fNoPart, fPart, fFrz, fCall, fCallK, fCall0, callA, slotsOf, argMs, clrE, putE, isS, fIf, fAnd, fOr, fNot, fB, bD, fAndV, fOrV, fIt, itD, itT, itS, fItA, fFor, fPar, fAsg, gT, gCons, gNil, gN, fDrop, fBor, fPthD, fPthB, atP, getM, lookM, putAt, setK, fPutK, fPop0, fMove, fDct, fPs, fPs0, fNil2, fLstM, fStill, still, fNx, fJoined, fJ, fJ0, onS, f2S, f1S, fYes, fParMV, frz, frzs, frzk, argD, outs, gI, gAdd, gSub, gDiv, gMod, gMul, gPow, gNeg, gLen, gAbs, gSl, intD, gIx, fArgs, g2I, wipeE, R.bind, R.of, gCmp, gLt, gLe, gGt, gGe, gIs, gIsNot, gInt, lcTurn, forTurn, sizeLine_eq, lg2, lg71, lg68909, lg41491, lgM, lg80, lg5, stM, kn_great_cells, kn_great_left, kn_great_turn, kn_cells_great, kn_cells_left, kn_cells_turn, kn_left_great, kn_left_cells, kn_left_turn, kn_turn_great, kn_turn_cells, kn_turn_left] at e2 e3
      simp [F__law_draw, d__law_draw, b__law_draw, b__law_blended, runF, fSeq, thenF, fSetV, fSetM, f2, f1, fVar, slot, fC, fRet, fUp, fTup, fLst, fConsA, fNilA, fSlotA, fSl, fNoPart, fPart, fFrz, fCall, fCallK, fCall0, callA, slotsOf, argMs, clrE, putE, isS, fIf, fAnd, fOr, fNot, fB, bD, fAndV, fOrV, fIt, itD, itT, itS, fItA, fFor, fPar, fAsg, gT, gCons, gNil, gN, fDrop, fBor, fPthD, fPthB, atP, getM, lookM, putAt, setK, fPutK, fPop0, fMove, fDct, fPs, fPs0, fNil2, fLstM, fStill, still, fNx, fJoined, fJ, fJ0, onS, f2S, f1S, fYes, fParMV, frz, frzs, frzk, argD, outs, gI, gAdd, gSub, gDiv, gMod, gMul, gPow, gNeg, gLen, gAbs, gSl, intD, gIx, fArgs, g2I, wipeE, R.bind, R.of, gCmp, gLt, gLe, gGt, gGe, gIs, gIsNot, gInt, lcTurn, forTurn, sizeLine_eq, lg2, lg71, lg68909, lg41491, lgM, lg80, lg5, stM, kn_great_cells, kn_great_left, kn_great_turn, kn_cells_great, kn_cells_left, kn_cells_turn, kn_left_great, kn_left_cells, kn_left_turn, kn_turn_great, kn_turn_cells, kn_turn_left, eq_int, e2, e3, frzs_md]
  · obtain ⟨r, m', e2, r1, r2, r3⟩ := rest (great := great) (left := left) (turn := turn) h1 h3 h4 (by omega)
    refine ⟨r, m', ?_, r1, r2, r3⟩
    simp [runF, fSeq, thenF, fSetV, fSetM, f2, f1, fVar, slot, fC, fRet, fUp, fTup, fLst, fConsA, fNilA, fSlotA, fSl, fNoPart, fPart, fFrz, fCall, fCallK, fCall0, callA, slotsOf, argMs, clrE, putE, isS, fIf, fAnd, fOr, fNot, fB, bD, fAndV, fOrV, fIt, itD, itT, itS, fItA, fFor, fPar, fAsg, gT, gCons, gNil, gN, fDrop, fBor, fPthD, fPthB, atP, getM, lookM, putAt, setK, fPutK, fPop0, fMove, fDct, fPs, fPs0, fNil2, fLstM, fStill, still, fNx, fJoined, fJ, fJ0, onS, f2S, f1S, fYes, fParMV, frz, frzs, frzk, argD, outs, gI, gAdd, gSub, gDiv, gMod, gMul, gPow, gNeg, gLen, gAbs, gSl, intD, gIx, fArgs, g2I, wipeE, R.bind, R.of, gCmp, gLt, gLe, gGt, gGe, gIs, gIsNot, gInt, lcTurn, forTurn, sizeLine_eq, lg2, lg71, lg68909, lg41491, lgM, lg80, lg5, stM, kn_great_cells, kn_great_left, kn_great_turn, kn_cells_great, kn_cells_left, kn_cells_turn, kn_left_great, kn_left_cells, kn_left_turn, kn_turn_great, kn_turn_cells, kn_turn_left] at e2
    simp [F__law_draw, d__law_draw, b__law_draw, runF, fSeq, thenF, fSetV, fSetM, f2, f1, fVar, slot, fC, fRet, fUp, fTup, fLst, fConsA, fNilA, fSlotA, fSl, fNoPart, fPart, fFrz, fCall, fCallK, fCall0, callA, slotsOf, argMs, clrE, putE, isS, fIf, fAnd, fOr, fNot, fB, bD, fAndV, fOrV, fIt, itD, itT, itS, fItA, fFor, fPar, fAsg, gT, gCons, gNil, gN, fDrop, fBor, fPthD, fPthB, atP, getM, lookM, putAt, setK, fPutK, fPop0, fMove, fDct, fPs, fPs0, fNil2, fLstM, fStill, still, fNx, fJoined, fJ, fJ0, onS, f2S, f1S, fYes, fParMV, frz, frzs, frzk, argD, outs, gI, gAdd, gSub, gDiv, gMod, gMul, gPow, gNeg, gLen, gAbs, gSl, intD, gIx, fArgs, g2I, wipeE, R.bind, R.of, gCmp, gLt, gLe, gGt, gGe, gIs, gIsNot, gInt, lcTurn, forTurn, sizeLine_eq, lg2, lg71, lg68909, lg41491, lgM, lg80, lg5, stM, kn_great_cells, kn_great_left, kn_great_turn, kn_cells_great, kn_cells_left, kn_cells_turn, kn_left_great, kn_left_cells, kn_left_turn, kn_turn_great, kn_turn_cells, kn_turn_left, eq_int, hl, e2]
theorem e_pick {m : M} {b : Nat} (h : Fit b m) (hb : b < 1000000000000) (ds : List D) (hd : ds ≠ []) (hl : ds.length < 1073741824) : ∃ d m', F__law_pick [m, .d (.list ds)] = .ok (.d d) [m'] ∧ d ∈ ds ∧ Fit (b + 1) m' := by
  have hp : 0 < ds.length := List.length_pos_iff.mpr hd
  obtain ⟨r, m', e1, r1, r2, r3⟩ := e_draw h hb ds.length (by omega) (by omega)
  obtain ⟨k, rfl⟩ := Int.eq_ofNat_of_zero_le r1
  have hk : k < ds.length := by omega
  refine ⟨ds[k], m', ?_, List.getElem_mem hk, r3⟩
  have e2 : atI ds (k : Int) = some ds[k] := by
    rw [atI_nat (j := k)]
    exact List.getElem?_eq_getElem hk
  simp [F__law_pick, d__law_pick, b__law_pick, b__law_draw, runF, fSeq, thenF, fSetV, fSetM, f2, f1, fVar, slot, fC, fRet, fUp, fTup, fLst, fConsA, fNilA, fSlotA, fSl, fNoPart, fPart, fFrz, fCall, fCallK, fCall0, callA, slotsOf, argMs, clrE, putE, isS, fIf, fAnd, fOr, fNot, fB, bD, fAndV, fOrV, fIt, itD, itT, itS, fItA, fFor, fPar, fAsg, gT, gCons, gNil, gN, fDrop, fBor, fPthD, fPthB, atP, getM, lookM, putAt, setK, fPutK, fPop0, fMove, fDct, fPs, fPs0, fNil2, fLstM, fStill, still, fNx, fJoined, fJ, fJ0, onS, f2S, f1S, fYes, fParMV, frz, frzs, frzk, argD, outs, gI, gAdd, gSub, gDiv, gMod, gMul, gPow, gNeg, gLen, gAbs, gSl, intD, gIx, fArgs, g2I, wipeE, R.bind, R.of, gCmp, gLt, gLe, gGt, gGe, gIs, gIsNot, gInt, lcTurn, forTurn, sizeLine_eq, lg2, lg71, lg68909, lg41491, lgM, lg80, lg5, e1, e2]
def signsS : Str := " !\"#$&'()*+,-./0123456789:;<=>?@ABCDEFGHIJKLMNOPQRSTUVWXYZ[\\]^_`abcdefghijklmnopqrstuvwxyz{|}~"
theorem e_signs : F__law_dk_signs [] = .ok (.d (.str signsS)) [] := by
  simp [F__law_dk_signs, d__law_dk_signs, b__law_dk_signs, runF, fSeq, thenF, fSetV, fSetM, f2, f1, fVar, slot, fC, fRet, fUp, fTup, fLst, fConsA, fNilA, fSlotA, fSl, fNoPart, fPart, fFrz, fCall, fCallK, fCall0, callA, slotsOf, argMs, clrE, putE, isS, fIf, fAnd, fOr, fNot, fB, bD, fAndV, fOrV, fIt, itD, itT, itS, fItA, fFor, fPar, fAsg, gT, gCons, gNil, gN, fDrop, fBor, fPthD, fPthB, atP, getM, lookM, putAt, setK, fPutK, fPop0, fMove, fDct, fPs, fPs0, fNil2, fLstM, fStill, still, fNx, fJoined, fJ, fJ0, onS, f2S, f1S, fYes, fParMV, frz, frzs, frzk, argD, outs, gI, gAdd, gSub, gDiv, gMod, gMul, gPow, gNeg, gLen, gAbs, gSl, intD, gIx, fArgs, g2I, wipeE, R.bind, R.of, gCmp, gLt, gLe, gGt, gGe, gIs, gIsNot, gInt, lcTurn, forTurn, sizeLine_eq, lg2, lg71, lg68909, lg41491, lgM, lg80, lg5, signsS]
end DL.K77
set_option Elab.async false
set_option linter.all false
set_option maxRecDepth 100000
set_option maxHeartbeats 1000000
namespace DL.K77
open PySem PySem.Spec PyProof.Rows L2
def Sg (c : Nat) : Prop := 32 ≤ c ∧ c ≤ 126
theorem signs_ok : ∀ c ∈ signsS.cps.toList, Sg c := by
  have h : (signsS.cps.toList.all fun c => decide (32 ≤ c ∧ c ≤ 126)) = true := by decide +kernel
  intro c hc
  have z := List.all_eq_true.mp h c hc
  simp only [decide_eq_true_eq] at z
  exact z
theorem signs_len : signsS.length = 94 := by decide +kernel
theorem allS_signs : ∀ cs : List Nat, allS (cs.map sign1) = some (cs.map fun c => (⟨#[c]⟩ : Str))
  | [] => rfl
  | c :: cs => by
    rw [List.map_cons, List.map_cons]
    simp [sign1, allS]
    exact allS_signs cs
theorem join_signs (cs : List Nat) : Txt.join ("" : Str) (cs.map fun c => (⟨#[c]⟩ : Str)) = ⟨cs.toArray⟩ := by
  have h := join_nil_signs ⟨cs.toArray⟩
  unfold Txt.join
  rw [StrLaws.glued_eq_join]
  exact h

theorem the_signs : ∃ S : Str, F__law_dk_signs [] = .ok (.d (.str S)) [] ∧ S.length = 94 ∧ ∀ c ∈ S.cps.toList, Sg c := ⟨signsS, e_signs, signs_len, signs_ok⟩
theorem rng1_nat (k : Nat) (h : k ≤ 1000000000) : rng1 [.d (.int (k : Int))] = some (rngL 0 k) := by
  unfold rng1
  dsimp only
  rw [if_pos (log2_of_lt (by decide) (by omega)), Int.toNat_natCast]
theorem gJoin_signs (cs : List Nat) (h : cs.length ≤ 1000000) : gJoin ("" : Str) (.list (cs.map sign1)) = some (.str ⟨cs.toArray⟩) := by
  unfold gJoin joinD
  dsimp only
  rw [allS_signs]
  dsimp only [Option.bind_some]
  have h1 : ((cs.map fun c => (⟨#[c]⟩ : Str)).map (·.length)).sum = cs.length := by
    clear h
    induction cs with
    | nil => rfl
    | cons c r ih =>
      rw [List.map_cons, List.map_cons, List.sum_cons, ih, List.length_cons]
      show 1 + r.length = r.length + 1
      omega
  have h2 : ("" : Str).length = 0 := by decide
  rw [h1, h2, Nat.mul_zero, Nat.add_zero, if_pos (by omega), join_signs]
theorem e_text {m : M} {b : Nat} (h : Fit b m) (hb : b < 900000000000) (most : Nat) (hm : most ≤ 1000) : ∃ x m', F__law_dk_text [m, .d (.int most)] = .ok (.d (.str x)) [m'] ∧ x.length ≤ most ∧ (∀ c ∈ x.cps.toList, Sg c) ∧ Fit (b + 1 + most) m' := by
  obtain ⟨S, e_S, S_len, S_ok⟩ := the_signs
  have hs : sizeLine = 16777216 := sizeLine_eq
  obtain ⟨r, m1, e1, r1, r2, r3⟩ := e_draw h (by omega) ((most : Int) + 1) (by omega) (by omega)
  obtain ⟨k, rfl⟩ := Int.eq_ofNat_of_zero_le r1
  have hk : k ≤ most := by omega
  obtain ⟨ys, e', g1, m2, cs, h2, h3, h4, h5, h6⟩ := lcL_rel (own := [3]) (g := gN 3) (fc := fYes) (fe := f2 gIx (fVar 2) (fFrz (fCall b__law_draw F__law_draw (fSlotA 0 (fConsA (f1 gLen (fVar 2)) fNilA)))))
    (fun rr e acc => ∃ m2 cs, e = [some m2, some (.d (.int most)), some (.d (.str S)), none] ∧ acc = cs.map sign1 ∧ acc.length + rr.length = k ∧ Fit (b + 1 + acc.length) m2 ∧ ∀ c ∈ cs, Sg c)
    (fun d rr e acc => by
      rintro ⟨m2, cs, rfl, rfl, g3, g4, g5⟩
      rw [List.length_cons] at g3
      obtain ⟨q, m3, e2, q1, q2, q3⟩ := e_draw g4 (by have := List.length_map (as := cs) sign1; omega) 94 (by omega) (by omega)
      obtain ⟨j, rfl⟩ := Int.eq_ofNat_of_zero_le q1
      have hj : j < S.cps.toList.length := by
        have : S.cps.toList.length = S.length := by simp [Str.length]
        rw [this, S_len]
        omega
      have e3 : atI S.cps.toList (j : Int) = some S.cps.toList[j] := by
        rw [atI_nat (j := j)]
        exact List.getElem?_eq_getElem hj
      refine ⟨some (sign1 S.cps.toList[j]), [some m3, some (.d (.int most)), some (.d (.str S)), none], ?_, m3, cs ++ [S.cps.toList[j]], rfl, by simp, by rw [List.length_append]; exact (by simp only [Option.toList_some, List.length_singleton]; omega), ?_, ?_⟩
      · simp [runF, fSeq, thenF, fSetV, fSetM, f2, f1, fVar, slot, fC, fRet, fUp, fTup, fLst, fConsA, fNilA, fSlotA, fSl, fNoPart, fPart, fFrz, fCall, fCallK, fCall0, callA, slotsOf, argMs, clrE, putE, isS, fIf, fAnd, fOr, fNot, fB, bD, fAndV, fOrV, fIt, itD, itT, itS, fItA, fFor, fPar, fAsg, gT, gCons, gNil, gN, fDrop, fBor, fPthD, fPthB, atP, getM, lookM, putAt, setK, fPutK, fPop0, fMove, fDct, fPs, fPs0, fNil2, fLstM, fStill, still, fNx, fJoined, fJ, fJ0, onS, f2S, f1S, fYes, fParMV, frz, frzs, frzk, argD, outs, gI, gAdd, gSub, gDiv, gMod, gMul, gPow, gNeg, gLen, gAbs, gSl, intD, gIx, fArgs, g2I, wipeE, R.bind, R.of, gCmp, gLt, gLe, gGt, gGe, gIs, gIsNot, gInt, lcTurn, forTurn, sizeLine_eq, lg2, lg71, lg68909, lg41491, lgM, lg80, lg5, S_len, b__law_draw, e2, e3]
      · rw [List.length_append]
        simpa [Nat.add_assoc] using q3
      · intro c hc
        rcases List.mem_append.mp hc with hc | hc
        · exact g5 c hc
        · rw [List.mem_singleton] at hc
          subst hc
          exact S_ok _ (List.getElem_mem hj))
    (rngL 0 k) [some m1, some (.d (.int most)), some (.d (.str S)), none] [] (by simp [rngL]; omega) ⟨m1, [], rfl, rfl, by simp [rngL], by simpa using r3, by simp⟩
  subst h2 h3
  have hlen : cs.length ≤ most := by simp at h4; omega
  refine ⟨⟨cs.toArray⟩, m2, ?_, by simpa [Str.length] using hlen, by simpa using h6, h5.mono (by simp; omega)⟩
  have e2 := rng1_nat k (by omega)
  have e3 := gJoin_signs cs (by omega)
  have s1 : fSetV 2 (fFrz (fCall0 b__law_dk_signs F__law_dk_signs)) [some m, some (.d (.int most)), none, none] = .ok .nx [some m, some (.d (.int most)), some (.d (.str S)), none] := fSetV_ok (fFrz_ok (call0_ok e_S))
  have s2 : (fItA rng1 (fConsA (fFrz (fCall b__law_draw F__law_draw (fSlotA 0 (fConsA (f2 gAdd (fVar 1) (fC (.int 1))) fNilA)))) fNilA)) [some m, some (.d (.int most)), some (.d (.str S)), none] = .ok (rngL 0 k) [some m1, some (.d (.int most)), some (.d (.str S)), none] := by
    have c := call_ok (br := b__law_draw) (G := F__law_draw) (fa := fSlotA 0 (fConsA (f2 gAdd (fVar 1) (fC (.int 1))) fNilA)) (env := [some m, some (.d (.int most)), some (.d (.str S)), none]) (as := [.s 0, .d (.int ((most : Int) + 1))]) (e := [some m, some (.d (.int most)), some (.d (.str S)), none]) rfl (by simp [slotsOf]) rfl rfl e1
    exact fItA_ok (fConsA_ok (fFrz_ok c) rfl) e2
  have s4 : (fFrz (fLc [3] (fItA rng1 (fConsA (fFrz (fCall b__law_draw F__law_draw (fSlotA 0 (fConsA (f2 gAdd (fVar 1) (fC (.int 1))) fNilA)))) fNilA)) (gN 3) fYes (f2 gIx (fVar 2) (fFrz (fCall b__law_draw F__law_draw (fSlotA 0 (fConsA (f1 gLen (fVar 2)) fNilA))))))) [some m, some (.d (.int most)), some (.d (.str S)), none] = .ok (.list (cs.map sign1)) [some m2, some (.d (.int most)), some (.d (.str S)), none] := by
    rw [fFrz_ok (fLc_ok s2 g1), frz_mds]
  exact runF_rt rfl ((fSeq_ok s1).trans (fRet_ok (fUp_ok (f2S_ok rfl s4 e3)))) rfl
end DL.K77
set_option Elab.async false
set_option linter.all false
set_option maxRecDepth 100000
set_option maxHeartbeats 1000000
namespace DL.K77
open PySem PySem.Spec PyProof.Rows L2
/-! ### sums -/
def wsum : Nat → List Nat → Nat
  | _, [] => 0
  | k, c :: r => k * c + wsum (k + 1) r
def sumS (x : Str) : Nat := wsum 1 x.cps.toList % 999983
def hSum : D → Option D
  | .tuple [.int i, .str s] => some (.int ((i + 1) * (s.cps.getD 0 0 : Nat)))
  | _ => none
def sumI : Nat → List Nat → List Int
  | _, [] => []
  | k, c :: r => ((k : Int) + 1) * c :: sumI (k + 1) r
theorem hSum_map : ∀ (k : Nat) (l : List Nat), (numL k (l.map sign1)).filterMap hSum = (sumI k l).map .int
  | _, [] => rfl
  | k, c :: r => by
    rw [List.map_cons, numL, List.filterMap_cons]
    show PyData.int _ :: _ = _
    rw [hSum_map (k + 1) r]
    rfl
theorem sumI_sum : ∀ (k : Nat) (l : List Nat), (sumI k l).sum = (wsum (k + 1) l : Nat)
  | _, [] => rfl
  | k, c :: r => by
    rw [sumI, List.sum_cons, sumI_sum (k + 1) r, wsum]
    push_cast
    rfl
theorem allI_map : ∀ l : List Int, allI (l.map .int) = some l
  | [] => rfl
  | i :: r => by rw [List.map_cons, allI, allI_map r]; rfl
theorem numL_mem {l : List Nat} {d : D} (h : d ∈ numL 0 (l.map sign1)) : ∃ (i c : Nat), i < l.length ∧ d = .tuple [.int (i : Nat), .str ⟨#[c]⟩] := by
  obtain ⟨i, hi⟩ := List.mem_iff_getElem?.mp h
  obtain ⟨d0, h1, h2⟩ := numL_get hi
  rw [List.getElem?_map, Option.map_eq_some_iff] at h1
  obtain ⟨c, hc, rfl⟩ := h1
  refine ⟨i, c, (List.getElem?_eq_some_iff.mp hc).1, ?_⟩
  rw [h2, Nat.zero_add]
  rfl
theorem gMul_l {i j : Int} (h : i.natAbs.log2 < 64) : gMul (.int i) (.int j) = some (.int (i * j)) := by
  unfold gMul
  dsimp only
  rw [if_pos (.inl h)]
theorem gOrd_1 (c : Nat) : gOrd (.str ⟨#[c]⟩) = some (.int (c : Nat)) := rfl
theorem half_turn (x : Str) (i c : Nat) (hi : i < 1000000) : lcTurn [1, 2] (gT (gCons (gN 1) (gCons (gN 2) gNil))) fYes (f2 gMul (f2 gAdd (fVar 1) (fC (.int 1))) (f1 gOrd (fVar 2))) (.tuple [.int (i : Nat), .str ⟨#[c]⟩]) [some (.d (.str x)), none, none] =
    .ok (some (.int (((i : Int) + 1) * (c : Nat)))) [some (.d (.str x)), none, none] := by
  have hb : ((i : Int) + 1).natAbs.log2 < 64 := log2_of_lt (by decide) (by omega)
  have t1 : f2 gMul (f2 gAdd (fVar 1) (fC (.int 1))) (f1 gOrd (fVar 2)) [some (.d (.str x)), some (.d (.int (i : Nat))), some (.d (.str ⟨#[c]⟩))] = .ok (.int (((i : Int) + 1) * (c : Nat))) [some (.d (.str x)), some (.d (.int (i : Nat))), some (.d (.str ⟨#[c]⟩))] :=
        f2_ok (f2_ok rfl rfl rfl) (f1_ok rfl (gOrd_1 c)) (gMul_l hb)
  have t2 : gT (gCons (gN 1) (gCons (gN 2) gNil)) (.tuple [.int (i : Nat), .str ⟨#[c]⟩]) [some (.d (.str x)), none, none] = some [some (.d (.str x)), some (.d (.int (i : Nat))), some (.d (.str ⟨#[c]⟩))] := rfl
  have t3 : fYes [some (.d (.str x)), some (.d (.int (i : Nat))), some (.d (.str ⟨#[c]⟩))] = .ok true [some (.d (.str x)), some (.d (.int (i : Nat))), some (.d (.str ⟨#[c]⟩))] := rfl
  unfold lcTurn
  rw [t2]
  dsimp only
  rw [t3]
  dsimp only
  rw [t1]
  rfl
theorem half_comp (x : Str) (h : x.length ≤ 1000000) : lcL [1, 2] (gT (gCons (gN 1) (gCons (gN 2) gNil))) fYes (f2 gMul (f2 gAdd (fVar 1) (fC (.int 1))) (f1 gOrd (fVar 2))) (numL 0 (x.cps.toList.map sign1)) [some (.d (.str x)), none, none] [] =
    .ok ((sumI 0 x.cps.toList).map .int) [some (.d (.str x)), none, none] := by
  have hs : sizeLine = 16777216 := sizeLine_eq
  have hl : x.cps.toList.length = x.length := by simp [Str.length]
  rw [← hSum_map]
  refine lcL_map hSum (by rw [numL_length, List.length_map]; omega) fun d hd => ?_
  obtain ⟨i, c, hi, e⟩ := numL_mem hd
  rw [e]
  exact half_turn x i c (by omega)
theorem e_half_sum (x : Str) (h : x.length ≤ 1000000) : F_half_sum [.d (.str x)] = .ok (.d (.int (sumS x : Nat))) [] := by
  have h1 := half_comp x h
  have h2 : gSum (.list ((sumI 0 x.cps.toList).map .int)) = some (.int (wsum 1 x.cps.toList : Nat)) := by
    unfold gSum
    dsimp only
    rw [allI_map, Option.map_some, sumI_sum]
  have e1 : (fItA enumD (fConsA (fVar 0) fNilA)) [some (.d (.str x)), none, none] = .ok (numL 0 (x.cps.toList.map sign1)) [some (.d (.str x)), none, none] := rfl
  have e2 := fFrz_ok (fLc_ok e1 h1)
  rw [frz_mds] at e2
  have e3 : gMod (.int (wsum 1 x.cps.toList : Nat)) (.int 999983) = some (.int (sumS x : Nat)) := by
    simp [gMod, gI, sumS]
  exact runF_rt rfl (fRet_ok (fUp_ok (f2_ok (f1_ok e2 h2) rfl e3))) rfl
theorem e_dk_sum (x : Str) (h : x.length ≤ 1000000) : F__law_dk_sum [.d (.str x)] = .ok (.d (.int (sumS x : Nat))) [] := by
  have hl : x.cps.toList.length = x.length := by simp [Str.length]
  obtain ⟨e', h1, k, l, f, y, z, g1, g2, rfl, g4, g5⟩ := forL_rel (g := gT (gCons (gN 2) (gCons (gN 3) gNil))) (body := fSetV 1 (f2 gMod (f1 gInt (f2 gAdd (fVar 1) (f2 gMul (f2 gAdd (fVar 2) (fC (.int 1))) (f1 gOrd (fVar 3))))) (fC (.int 999983))))
    (fun r e => ∃ k l f y z, r = numL k (l.map sign1) ∧ k + l.length ≤ 1000000 ∧ e = [some (.d (.str x)), some (.d (.int (f : Nat))), y, z] ∧ (f + wsum (k + 1) l) % 999983 = sumS x ∧ f < 999983)
    (fun d r e => by
      rintro ⟨k, l, f, y, z, g1, g2, rfl, g4, g5⟩
      cases l with
      | nil => cases g1
      | cons c l =>
        rw [List.map_cons, numL] at g1
        cases g1
        rw [List.length_cons] at g2
        have hb : ((k : Int) + 1).natAbs.log2 < 64 := log2_of_lt (by decide) (by omega)
        have t1 : f2 gMul (f2 gAdd (fVar 2) (fC (.int 1))) (f1 gOrd (fVar 3)) [some (.d (.str x)), some (.d (.int (f : Nat))), some (.d (.int (k : Nat))), some (.d (.str ⟨#[c]⟩))] = .ok (.int (((k : Int) + 1) * (c : Nat))) [some (.d (.str x)), some (.d (.int (f : Nat))), some (.d (.int (k : Nat))), some (.d (.str ⟨#[c]⟩))] :=
          f2_ok (f2_ok rfl rfl rfl) (f1_ok rfl (gOrd_1 c)) (gMul_l hb)
        have t2 : gMod (.int ((f : Int) + ((k : Int) + 1) * (c : Nat))) (.int 999983) = some (.int (((f + (k + 1) * c) % 999983 : Nat))) := by
          simp [gMod, gI]
        refine ⟨_, fSetV_ok (f2_ok (f1_ok (f2_ok rfl t1 rfl) rfl) rfl t2), k + 1, l, (f + (k + 1) * c) % 999983, _, _, rfl, by omega, rfl, ?_, Nat.mod_lt _ (by decide)⟩
        rw [← g4, wsum]
        omega)
    (numL 0 (x.cps.toList.map sign1)) [some (.d (.str x)), some (.d (.int ((0 : Nat) : Int))), none, none] ⟨0, x.cps.toList, 0, none, none, rfl, by omega, rfl, by rw [Nat.zero_add]; rfl, by decide⟩
  have hn : l = [] := by
    cases l with
    | nil => rfl
    | cons c l => cases g1
  subst hn
  have hf : f = sumS x := by
    rw [← g4, wsum]
    omega
  subst hf
  have e1 : fSetV 1 (fC (.int 0)) [some (.d (.str x)), none, none, none] = .ok .nx [some (.d (.str x)), some (.d (.int ((0 : Nat) : Int))), none, none] := rfl
  have e2 : (fItA enumD (fConsA (fVar 0) fNilA)) [some (.d (.str x)), some (.d (.int ((0 : Nat) : Int))), none, none] = .ok (numL 0 (x.cps.toList.map sign1)) [some (.d (.str x)), some (.d (.int ((0 : Nat) : Int))), none, none] := rfl
  exact runF_rt rfl ((fSeq_ok e1).trans ((fSeq_ok (fFor_ok e2 h1)).trans (fRet_ok (fUp_ok rfl)))) rfl
/-! ### the text of a half -/
theorem Str.extL {x y : Str} (h : x.cps.toList = y.cps.toList) : x = y := by
  cases x
  cases y
  congr 1
  exact Array.toList_inj.mp h
theorem appL (x y : Str) : (x ++ y).cps.toList = x.cps.toList ++ y.cps.toList := by
  show (x.cps ++ y.cps).toList = _
  rw [Array.toList_append]
/-- the digits of a number, as signs -/
def dig (n : Nat) : List Nat := (Nat.toDigits 10 n).map Char.toNat
abbrev iS (n : Nat) : Str := Str.ofString (toString (n : Int))
theorem iS_L (n : Nat) : (iS n).cps.toList = dig n := by
  have h : iS n = ⟨((Nat.toDigits 10 n).map Char.toNat).toArray⟩ := text_ofNat n
  rw [h]
  rfl
theorem iS_len {n : Nat} (h : n < 10 ^ 14) : (iS n).length ≤ 14 := by
  have h1 : (iS n).length = (dig n).length := by rw [← iS_L]; simp [Str.length]
  rw [h1]
  unfold dig
  rw [List.length_map]
  exact digits10_le (by decide) h
theorem appLen (x y : Str) : (x ++ y).length = x.length + y.length := by
  show (x.cps ++ y.cps).size = x.cps.size + y.cps.size
  rw [Array.size_append]
theorem fJ_ok {fa : Env → R D} {fr : Str → Env → R Str} {acc y : Str} {env e1 : Env} (h1 : fa env = .ok (.str y) e1) (hl : acc.length + y.length ≤ 16777216) : fJ fa fr acc env = fr (acc ++ y) e1 := by
  unfold fJ
  rw [h1]
  show (if (acc ++ y).length ≤ sizeLine then fr (acc ++ y) e1 else .stuck) = _
  rw [if_pos (by rw [appLen, sizeLine_eq]; exact hl)]
theorem gFmt_s {y : Str} (h : y.length ≤ 16777216) : gFmt (.str y) = some (.str y) := by
  unfold gFmt
  dsimp only
  rw [if_pos (by rw [sizeLine_eq]; exact h)]
theorem gFmt_i {n : Nat} (h : n < 10 ^ 14) : gFmt (.int (n : Int)) = some (.str (iS n)) := by
  unfold gFmt
  dsimp only
  rw [if_pos (show (n : Int).natAbs.log2 < 1920 from Nat.lt_trans (log2_of_lt (k := 47) (by decide) (Nat.lt_of_lt_of_le h (by decide))) (by decide))]
theorem fJoined_ok {f : Str → Env → R Str} {env e : Env} {y : Str} (h : f Str.empty env = .ok y e) : fJoined f env = .ok (.str y) e := by
  unfold fJoined
  rw [h]
  rfl
def restS (name : Str) (page side number : Nat) (part : Str) : Str := Str.empty ++ name ++ " " ++ iS page ++ " " ++ iS side ++ " " ++ iS number ++ " " ++ part
def halfS (name : Str) (page side number : Nat) (part : Str) : Str := Str.empty ++ pad6 (sumS (restS name page side number part)) ++ " " ++ restS name page side number part
theorem blank_len : (" " : Str).length = 1 := by decide
theorem empty_len : Str.empty.length = 0 := by decide
theorem restS_len {name part : Str} {page side number : Nat} (h1 : name.length ≤ 100) (h2 : page < 10 ^ 14) (h3 : side < 10 ^ 14) (h4 : number < 10 ^ 14) (h5 : part.length ≤ 100000) : (restS name page side number part).length ≤ 100200 := by
  have a1 := iS_len h2
  have a2 := iS_len h3
  have a3 := iS_len h4
  unfold restS
  simp only [appLen, blank_len, empty_len]
  omega
theorem dig_len {n : Nat} (h : n < 999983) : (dig n).length ≤ 6 := by
  unfold dig
  rw [List.length_map]
  exact digits10_le (by decide) (Nat.lt_of_lt_of_le h (by decide))
theorem pad6_len {n : Nat} (h : n < 999983) : (pad6 n).length = 6 := by
  have := dig_len h
  unfold dig at this
  rw [List.length_map] at this
  show (List.toArray _).size = 6
  simp
  omega
theorem sumS_lt (x : Str) : sumS x < 999983 := Nat.mod_lt _ (by decide)
theorem gFmt6_s {n : Nat} (h : n < 999983) : gFmt6 (.int (n : Int)) = some (.str (pad6 n)) := by
  show (if n.log2 < 1920 ∧ (pad6 n).length ≤ sizeLine then some (PyData.str (pad6 n)) else none) = _
  rw [if_pos ⟨Nat.lt_trans (log2_of_lt (k := 47) (by decide) (Nat.lt_of_lt_of_le h (by decide))) (by decide), by rw [pad6_len h, sizeLine_eq]; decide⟩]
theorem e_half_text {name part : Str} {page side number : Nat} (h1 : name.length ≤ 100) (h2 : page < 10 ^ 14) (h3 : side < 10 ^ 14) (h4 : number < 10 ^ 14) (h5 : part.length ≤ 100000) :
    F_half_text [.d (.str name), .d (.int page), .d (.int side), .d (.int number), .d (.str part)] = .ok (.d (.str (halfS name page side number part))) [] := by
  have a1 := iS_len h2
  have a2 := iS_len h3
  have a3 := iS_len h4
  have hr := restS_len h1 h2 h3 h4 h5
  have hsm := sumS_lt (restS name page side number part)
  have hp := pad6_len hsm
  have bl := blank_len
  have em := empty_len
  let e0 : Env := [some (.d (.str name)), some (.d (.int page)), some (.d (.int side)), some (.d (.int number)), some (.d (.str part)), none]
  let e1 : Env := [some (.d (.str name)), some (.d (.int page)), some (.d (.int side)), some (.d (.int number)), some (.d (.str part)), some (.d (.str (restS name page side number part)))]
  have s1 : fSetV 5 (fJoined (fJ (f1 gFmt (fVar 0)) (fJ (fC (.str (" " : Str))) (fJ (f1 gFmt (fVar 1)) (fJ (fC (.str (" " : Str))) (fJ (f1 gFmt (fVar 2)) (fJ (fC (.str (" " : Str))) (fJ (f1 gFmt (fVar 3)) (fJ (fC (.str (" " : Str))) (fJ (f1 gFmt (fVar 4)) fJ0)))))))))) e0 = .ok .nx e1 := by
    refine fSetV_ok (e := e0) (fJoined_ok (y := restS name page side number part) ?_)
    refine (fJ_ok (y := name) (e1 := e0) (f1_ok (e := e0) (d := .str name) rfl (gFmt_s (by omega))) (by omega)).trans ?_
    refine (fJ_ok (e1 := e0) (fa := fC (.str (" " : Str))) (y := " ") rfl (by simp only [appLen]; omega)).trans ?_
    refine (fJ_ok (y := iS page) (e1 := e0) (f1_ok (e := e0) (d := .int (page : Nat)) rfl (gFmt_i h2)) (by simp only [appLen]; omega)).trans ?_
    refine (fJ_ok (e1 := e0) (fa := fC (.str (" " : Str))) (y := " ") rfl (by simp only [appLen]; omega)).trans ?_
    refine (fJ_ok (y := iS side) (e1 := e0) (f1_ok (e := e0) (d := .int (side : Nat)) rfl (gFmt_i h3)) (by simp only [appLen]; omega)).trans ?_
    refine (fJ_ok (e1 := e0) (fa := fC (.str (" " : Str))) (y := " ") rfl (by simp only [appLen]; omega)).trans ?_
    refine (fJ_ok (y := iS number) (e1 := e0) (f1_ok (e := e0) (d := .int (number : Nat)) rfl (gFmt_i h4)) (by simp only [appLen]; omega)).trans ?_
    refine (fJ_ok (e1 := e0) (fa := fC (.str (" " : Str))) (y := " ") rfl (by simp only [appLen]; omega)).trans ?_
    refine (fJ_ok (y := part) (e1 := e0) (f1_ok (e := e0) (d := .str part) rfl (gFmt_s (by omega))) (by simp only [appLen]; omega)).trans ?_
    rfl
  have c1 : fFrz (fCall b_half_sum F_half_sum (fConsA (fVar 5) fNilA)) e1 = .ok (.int (sumS (restS name page side number part) : Nat)) e1 :=
    fFrz_ok (call_ok (as := [.d (.str (restS name page side number part))]) (e := e1) rfl (by simp [slotsOf]) rfl rfl (e_half_sum _ (by omega)))
  have s2 : fJoined (fJ (f1 gFmt6 (fFrz (fCall b_half_sum F_half_sum (fConsA (fVar 5) fNilA)))) (fJ (fC (.str (" " : Str))) (fJ (f1 gFmt (fVar 5)) fJ0))) e1 = .ok (.str (halfS name page side number part)) e1 := by
    refine fJoined_ok (y := halfS name page side number part) ?_
    refine (fJ_ok (e1 := e1) (y := pad6 (sumS (restS name page side number part))) (f1_ok c1 (gFmt6_s hsm)) (by omega)).trans ?_
    refine (fJ_ok (e1 := e1) (fa := fC (.str (" " : Str))) (y := " ") rfl (by simp only [appLen]; omega)).trans ?_
    refine (fJ_ok (e1 := e1) (y := restS name page side number part) (f1_ok (e := e1) (d := .str (restS name page side number part)) rfl (gFmt_s (by omega))) (by simp only [appLen]; omega)).trans ?_
    rfl
  exact runF_rt rfl ((fSeq_ok s1).trans (fRet_ok (fUp_ok s2))) rfl
end DL.K77
set_option Elab.async false
set_option linter.all false
set_option maxRecDepth 100000
set_option maxHeartbeats 1000000
namespace DL.K77
open PySem PySem.Spec PyProof.Rows L2
theorem gStr_i {n : Nat} (h : n < 10 ^ 14) : gStr (.int (n : Int)) = some (.str (iS n)) := by
  unfold gStr
  dsimp only
  rw [if_pos (show (n : Int).natAbs.log2 < 1920 from Nat.lt_trans (log2_of_lt (k := 47) (by decide) (Nat.lt_of_lt_of_le h (by decide))) (by decide))]
theorem blankL : (" " : Str).cps.toList = [32] := by decide
theorem emptyL : Str.empty.cps.toList = [] := rfl
theorem restS_L (name part : Str) (page side number : Nat) : (restS name page side number part).cps.toList = name.cps.toList ++ (32 :: (dig page ++ (32 :: (dig side ++ (32 :: (dig number ++ (32 :: part.cps.toList))))))) := by
  unfold restS
  simp only [appL, blankL, emptyL, iS_L]
  simp
theorem join_rest (name part : Str) (page side number : Nat) : Txt.join (" " : Str) [name, iS page, iS side, iS number, part] = restS name page side number part := by
  apply Str.extL
  rw [restS_L]
  unfold Txt.join
  rw [StrLaws.glued_eq_join]
  simp only [Str.join, appL, blankL, iS_L]
  simp
theorem dig_num (n : Nat) : dig n = TL.numL n := rfl
theorem dig_mem {n c : Nat} (h : c ∈ dig n) : 48 ≤ c ∧ c ≤ 57 := by
  constructor
  · exact Classical.byContradiction fun z => TL.numL_free (n := n) (s := c) (by omega) h
  · exact Classical.byContradiction fun z => TL.numL_free (n := n) (s := c) (by omega) h
theorem dig_first (n : Nat) : ∃ c r, dig n = c :: r ∧ 48 ≤ c ∧ c ≤ 57 := by
  cases h : dig n with
  | nil => exact absurd h (TL.numL_ne n)
  | cons c r => exact ⟨c, r, rfl, dig_mem (n := n) (by rw [h]; exact List.mem_cons_self)⟩
theorem zfill_pad {n : Nat} (h : n < 999983) : Txt.zfill (iS n) 6 = pad6 n := by
  apply Str.extL
  have hl := dig_len h
  have hL : (iS n).length = (dig n).length := by rw [← iS_L]; simp [Str.length]
  obtain ⟨c, r, hd, h1, h2⟩ := dig_first n
  have hdl : (dig n).length = (Nat.toDigits 10 n).length := by unfold dig; rw [List.length_map]
  have hp : (pad6 n).cps.toList = List.replicate (6 - (dig n).length) 48 ++ dig n := by rw [hdl]; rfl
  rw [hp]
  unfold Txt.zfill
  by_cases h6 : (6 : Int) ≤ (iS n).length
  · rw [if_pos h6, iS_L]
    have : (dig n).length = 6 := by omega
    rw [this]
    rfl
  · rw [if_neg h6, hL]
    have h0 : (iS n).cps[0]? = some c := by
      rw [← Array.getElem?_toList, iS_L, hd]
      rfl
    unfold zfilled
    rw [h0]
    have hf : (match (some c : Option Nat) with
      | some 43 | some 45 => Builtin.Str.strSub (iS n) 0 1 ++ Builtin.Str.padded (Builtin.Str.strSub (iS n) 1 (iS n).length) ((6 : Int).toNat - (dig n).length) 0 48
      | _ => Builtin.Str.padded (iS n) ((6 : Int).toNat - (dig n).length) 0 48) = Builtin.Str.padded (iS n) ((6 : Int).toNat - (dig n).length) 0 48 := by
      split
      · rename_i e; cases e; omega
      · rename_i e; cases e; omega
      · rfl
    refine (congrArg (fun x : Str => x.cps.toList) hf).trans ?_
    unfold Builtin.Str.padded
    simp [iS_L]
theorem gZfill_s {n : Nat} (h : n < 999983) : gZfill (iS n) (.int 6) = some (.str (pad6 n)) := by
  unfold gZfill
  dsimp only
  rw [if_pos (by decide), zfill_pad h]
theorem halfS_eq (name part : Str) (page side number : Nat) : pad6 (sumS (restS name page side number part)) ++ " " ++ restS name page side number part = halfS name page side number part := by
  apply Str.extL
  unfold halfS
  simp only [appL, emptyL]
  simp
theorem e_dk_half {name part : Str} {page side number : Nat} (h1 : name.length ≤ 100) (h2 : page < 10 ^ 14) (h3 : side < 10 ^ 14) (h4 : number < 10 ^ 14) (h5 : part.length ≤ 100000) :
    F__law_dk_half [.d (.str name), .d (.int page), .d (.int side), .d (.int number), .d (.str part)] = .ok (.d (.str (halfS name page side number part))) [] := by
  have a1 := iS_len h2
  have a2 := iS_len h3
  have a3 := iS_len h4
  have hr := restS_len h1 h2 h3 h4 h5
  have hsm := sumS_lt (restS name page side number part)
  have hp := pad6_len hsm
  have bl := blank_len
  have em := empty_len
  let e0 : Env := [some (.d (.str name)), some (.d (.int page)), some (.d (.int side)), some (.d (.int number)), some (.d (.str part)), none]
  let e1 : Env := [some (.d (.str name)), some (.d (.int page)), some (.d (.int side)), some (.d (.int number)), some (.d (.str part)), some (.d (.str (restS name page side number part)))]
  have sl : sizeLine = 16777216 := sizeLine_eq
  have j1 : gJoin (" " : Str) (.list [.str name, .str (iS page), .str (iS side), .str (iS number), .str part]) = some (.str (restS name page side number part)) := by
    show joinD _ _ = _
    unfold joinD
    show (if _ then _ else _) = _
    rw [if_pos]
    · rw [join_rest]
    · simp only [List.map_cons, List.map_nil, List.sum_cons, List.sum_nil, List.length_cons, List.length_nil, bl]
      omega
  have s1 : fSetV 5 (f2S gJoin (fC (.str (" " : Str))) (fLst (fConsA (fVar 0) (fConsA (f1 gStr (fVar 1)) (fConsA (f1 gStr (fVar 2)) (fConsA (f1 gStr (fVar 3)) (fConsA (fVar 4) fNilA))))))) e0 = .ok .nx e1 := by
    have t0 : fConsA (fVar 0) (fConsA (f1 gStr (fVar 1)) (fConsA (f1 gStr (fVar 2)) (fConsA (f1 gStr (fVar 3)) (fConsA (fVar 4) fNilA)))) e0 = .ok [.d (.str name), .d (.str (iS page)), .d (.str (iS side)), .d (.str (iS number)), .d (.str part)] e0 :=
      fConsA_ok (e1 := e0) rfl (fConsA_ok (e1 := e0) (f1_ok (d := .int (page : Nat)) rfl (gStr_i h2)) (fConsA_ok (e1 := e0) (f1_ok (d := .int (side : Nat)) rfl (gStr_i h3)) (fConsA_ok (e1 := e0) (f1_ok (d := .int (number : Nat)) rfl (gStr_i h4)) (fConsA_ok (e1 := e0) rfl rfl))))
    have t1 : fLst (fConsA (fVar 0) (fConsA (f1 gStr (fVar 1)) (fConsA (f1 gStr (fVar 2)) (fConsA (f1 gStr (fVar 3)) (fConsA (fVar 4) fNilA))))) e0 = .ok (.list [.str name, .str (iS page), .str (iS side), .str (iS number), .str part]) e0 := by
      unfold fLst
      rw [t0]
      rfl
    exact fSetV_ok (e := e0) (f2S_ok (e1 := e0) rfl t1 j1)
  have c1 : fFrz (fCall b__law_dk_sum F__law_dk_sum (fConsA (fVar 5) fNilA)) e1 = .ok (.int (sumS (restS name page side number part) : Nat)) e1 :=
    fFrz_ok (call_ok (as := [.d (.str (restS name page side number part))]) (e := e1) rfl (by simp [slotsOf]) rfl rfl (e_dk_sum _ (by omega)))
  have g1 : gAdd (.str (pad6 (sumS (restS name page side number part)))) (.str (" " : Str)) = some (.str (pad6 (sumS (restS name page side number part)) ++ " ")) := by
    unfold gAdd
    dsimp only
    rw [if_pos (by omega)]
  have g2 : gAdd (.str (pad6 (sumS (restS name page side number part)) ++ " ")) (.str (restS name page side number part)) = some (.str (halfS name page side number part)) := by
    unfold gAdd
    dsimp only
    rw [if_pos (by rw [appLen]; omega), halfS_eq]
  exact runF_rt rfl ((fSeq_ok s1).trans (fRet_ok (fUp_ok (f2_ok (e1 := e1) (f2_ok (e1 := e1) (f2S_ok (e1 := e1) (f1_ok c1 (gStr_i (Nat.lt_trans hsm (by decide)))) rfl (gZfill_s hsm)) rfl g1) rfl g2)))) rfl
end DL.K77
set_option Elab.async false
set_option linter.all false
set_option maxRecDepth 100000
set_option maxHeartbeats 1000000
namespace DL.K77
open PySem PySem.Spec PyProof.Rows L2
theorem fNilA_ok {env : Env} : fNilA env = .ok [] env := rfl
theorem fTup_ok {fr : Env → R (List Arg)} {env e : Env} {as : List Arg} {ds : List D} (h : fr env = .ok as e) (hd : argD as = some ds) (hl : ds.length ≤ 16777216) : fTup fr env = .ok (.tuple ds) e := by
  unfold fTup
  rw [h]
  show R.of ((argD as).bind fun ds => if ds.length ≤ sizeLine then some (PyData.tuple ds) else none) e = _
  rw [hd]
  show R.of (if ds.length ≤ sizeLine then some (PyData.tuple ds) else none) e = _
  rw [if_pos (by rw [sizeLine_eq]; exact hl)]
  rfl
theorem fLst_ok {fr : Env → R (List Arg)} {env e : Env} {as : List Arg} {ds : List D} (h : fr env = .ok as e) (hd : argD as = some ds) (hl : ds.length ≤ 16777216) : fLst fr env = .ok (.list ds) e := by
  unfold fLst
  rw [h]
  show R.of ((argD as).bind fun ds => if ds.length ≤ sizeLine then some (PyData.list ds) else none) e = _
  rw [hd]
  show R.of (if ds.length ≤ sizeLine then some (PyData.list ds) else none) e = _
  rw [if_pos (by rw [sizeLine_eq]; exact hl)]
  rfl
def mid (x : Str) : Nat := (x.length + 1) / 2
def b0 (x : Str) : Str := cutS x none (some (mid x : Int))
def b1 (x : Str) : Str := cutS x (some (mid x : Int)) none
theorem mid_le (x : Str) : mid x ≤ x.length := by unfold mid; omega
theorem cut_len (x : Str) (lo hi : Option Int) : (cutS x lo hi).length ≤ x.length := by
  have hl : x.cps.toList.length = x.length := by simp [Str.length]
  have : (cutS x lo hi).length = (cutS x lo hi).cps.toList.length := by simp [Str.length]
  rw [this]
  unfold cutS
  show (List.take _ (List.drop _ x.cps.toList)).length ≤ _
  rw [List.length_take, List.length_drop, hl]
  omega
theorem e_sides (x : Str) (h : x.length ≤ 100000) : F_sides_of [.d (.str x)] = .ok (.d (.tuple [.str (b0 x), .str (b1 x)])) [] := by
  have hs : sizeLine = 16777216 := sizeLine_eq
  have hm : ((x.length : Int) + 1) / 2 = (mid x : Nat) := by unfold mid; omega
  rw [e_sides_of x (by omega), hm]
  rfl
theorem e_page_texts {name body : Str} {page number : Nat} (h1 : name.length ≤ 100) (h2 : page < 10 ^ 14) (h4 : number < 10 ^ 14) (h5 : body.length ≤ 100000) :
    F_page_texts [.d (.str name), .d (.int page), .d (.int number), .d (.str body)] = .ok (.d (.tuple [.str (halfS name page 0 number (b0 body)), .str (halfS name page 1 number (b1 body))])) [] := by
  have l0 : (b0 body).length ≤ 100000 := Nat.le_trans (cut_len _ _ _) h5
  have l1 : (b1 body).length ≤ 100000 := Nat.le_trans (cut_len _ _ _) h5
  let e0 : Env := [some (.d (.str name)), some (.d (.int page)), some (.d (.int number)), some (.d (.str body)), none, none]
  let e1 : Env := [some (.d (.str name)), some (.d (.int page)), some (.d (.int number)), some (.d (.str body)), some (.d (.str (b0 body))), some (.d (.str (b1 body)))]
  have c0 : fFrz (fCall b_sides_of F_sides_of (fConsA (fVar 3) fNilA)) e0 = .ok (.tuple [.str (b0 body), .str (b1 body)]) e0 :=
    fFrz_ok (call_ok (as := [.d (.str body)]) (e := e0) rfl (by simp [slotsOf]) rfl rfl (e_sides body h5))
  have s0 : fAsg (fFrz (fCall b_sides_of F_sides_of (fConsA (fVar 3) fNilA))) (gT (gCons (gN 4) (gCons (gN 5) gNil))) e0 = .ok .nx e1 := by
    unfold fAsg
    rw [c0]
    rfl
  have c1 : fFrz (fCall b_half_text F_half_text (fConsA (fVar 0) (fConsA (fVar 1) (fConsA (fC (.int 0)) (fConsA (fVar 2) (fConsA (fVar 4) fNilA)))))) e1 = .ok (.str (halfS name page 0 number (b0 body))) e1 :=
    fFrz_ok (call_ok (as := [.d (.str name), .d (.int page), .d (.int ((0 : Nat) : Int)), .d (.int number), .d (.str (b0 body))]) (e := e1) rfl (by simp [slotsOf]) rfl rfl (e_half_text h1 h2 (by decide) h4 l0))
  have c2 : fFrz (fCall b_half_text F_half_text (fConsA (fVar 0) (fConsA (fVar 1) (fConsA (fC (.int 1)) (fConsA (fVar 2) (fConsA (fVar 5) fNilA)))))) e1 = .ok (.str (halfS name page 1 number (b1 body))) e1 :=
    fFrz_ok (call_ok (as := [.d (.str name), .d (.int page), .d (.int ((1 : Nat) : Int)), .d (.int number), .d (.str (b1 body))]) (e := e1) rfl (by simp [slotsOf]) rfl rfl (e_half_text h1 h2 (by decide) h4 l1))
  have t1 : fTup (fConsA (fFrz (fCall b_half_text F_half_text (fConsA (fVar 0) (fConsA (fVar 1) (fConsA (fC (.int 0)) (fConsA (fVar 2) (fConsA (fVar 4) fNilA))))))) (fConsA (fFrz (fCall b_half_text F_half_text (fConsA (fVar 0) (fConsA (fVar 1) (fConsA (fC (.int 1)) (fConsA (fVar 2) (fConsA (fVar 5) fNilA))))))) fNilA)) e1
      = .ok (.tuple [.str (halfS name page 0 number (b0 body)), .str (halfS name page 1 number (b1 body))]) e1 := by
    exact fTup_ok (fConsA_ok c1 (fConsA_ok c2 fNilA_ok)) rfl (by simp)
  exact runF_rt rfl ((fSeq_ok s0).trans (fRet_ok (fUp_ok t1))) rfl
theorem e_dk_both {name body : Str} {page number : Nat} (h1 : name.length ≤ 100) (h2 : page < 10 ^ 14) (h4 : number < 10 ^ 14) (h5 : body.length ≤ 100000) :
    F__law_dk_both [.d (.str name), .d (.int page), .d (.int number), .d (.str body)] = .ok (.d (.list [.str (halfS name page 0 number (b0 body)), .str (halfS name page 1 number (b1 body))])) [] := by
  have l0 : (b0 body).length ≤ 100000 := Nat.le_trans (cut_len _ _ _) h5
  have l1 : (b1 body).length ≤ 100000 := Nat.le_trans (cut_len _ _ _) h5
  let e0 : Env := [some (.d (.str name)), some (.d (.int page)), some (.d (.int number)), some (.d (.str body)), none]
  let e1 : Env := [some (.d (.str name)), some (.d (.int page)), some (.d (.int number)), some (.d (.str body)), some (.d (.int (mid body : Nat)))]
  have g0 : gLen (.str body) = some (.int body.length) := by
    unfold gLen
    dsimp only
    rw [if_pos (by rw [sizeLine_eq]; omega)]
  have s0 : fSetV 4 (f2 gSub (f1 gLen (fVar 3)) (f2 gDiv (f1 gLen (fVar 3)) (fC (.int 2)))) e0 = .ok .nx e1 := by
    refine fSetV_ok (e := e0) (d := .int (mid body : Nat)) (f2_ok (e1 := e0) (f1_ok (e := e0) rfl g0) (f2_ok (e1 := e0) (z := .int ((body.length : Int) / 2)) (f1_ok (e := e0) rfl g0) rfl ?_) ?_)
    · rfl
    · show some (PyData.int ((body.length : Int) - (body.length : Int) / 2)) = _
      unfold mid
      congr 2
      omega
  have k0 : fSl (fVar 3) fNoPart (fPart (fVar 4)) e1 = .ok (.str (b0 body)) e1 := by
    show R.of (gSl (.str body) none (some (mid body : Int))) e1 = _
    unfold gSl
    dsimp only
    rw [if_pos (by rw [sizeLine_eq]; omega)]
    rfl
  have k1 : fSl (fVar 3) (fPart (fVar 4)) fNoPart e1 = .ok (.str (b1 body)) e1 := by
    show R.of (gSl (.str body) (some (mid body : Int)) none) e1 = _
    unfold gSl
    dsimp only
    rw [if_pos (by rw [sizeLine_eq]; omega)]
    rfl
  have c1 : fFrz (fCall b__law_dk_half F__law_dk_half (fConsA (fVar 0) (fConsA (fVar 1) (fConsA (fC (.int 0)) (fConsA (fVar 2) (fConsA (fSl (fVar 3) fNoPart (fPart (fVar 4))) fNilA)))))) e1 = .ok (.str (halfS name page 0 number (b0 body))) e1 :=
    fFrz_ok (call_ok (as := [.d (.str name), .d (.int page), .d (.int ((0 : Nat) : Int)), .d (.int number), .d (.str (b0 body))]) (e := e1) (fConsA_ok (e1 := e1) rfl (fConsA_ok (e1 := e1) rfl (fConsA_ok (e1 := e1) rfl (fConsA_ok (e1 := e1) rfl (fConsA_ok k0 rfl))))) (by simp [slotsOf]) rfl rfl (e_dk_half h1 h2 (by decide) h4 l0))
  have c2 : fFrz (fCall b__law_dk_half F__law_dk_half (fConsA (fVar 0) (fConsA (fVar 1) (fConsA (fC (.int 1)) (fConsA (fVar 2) (fConsA (fSl (fVar 3) (fPart (fVar 4)) fNoPart) fNilA)))))) e1 = .ok (.str (halfS name page 1 number (b1 body))) e1 :=
    fFrz_ok (call_ok (as := [.d (.str name), .d (.int page), .d (.int ((1 : Nat) : Int)), .d (.int number), .d (.str (b1 body))]) (e := e1) (fConsA_ok (e1 := e1) rfl (fConsA_ok (e1 := e1) rfl (fConsA_ok (e1 := e1) rfl (fConsA_ok (e1 := e1) rfl (fConsA_ok k1 rfl))))) (by simp [slotsOf]) rfl rfl (e_dk_half h1 h2 (by decide) h4 l1))
  have t1 : fLst (fConsA (fFrz (fCall b__law_dk_half F__law_dk_half (fConsA (fVar 0) (fConsA (fVar 1) (fConsA (fC (.int 0)) (fConsA (fVar 2) (fConsA (fSl (fVar 3) fNoPart (fPart (fVar 4))) fNilA))))))) (fConsA (fFrz (fCall b__law_dk_half F__law_dk_half (fConsA (fVar 0) (fConsA (fVar 1) (fConsA (fC (.int 1)) (fConsA (fVar 2) (fConsA (fSl (fVar 3) (fPart (fVar 4)) fNoPart) fNilA))))))) fNilA)) e1
      = .ok (.list [.str (halfS name page 0 number (b0 body)), .str (halfS name page 1 number (b1 body))]) e1 := by
    exact fLst_ok (fConsA_ok c1 (fConsA_ok c2 fNilA_ok)) rfl (by simp)
  exact runF_rt rfl ((fSeq_ok s0).trans (fRet_ok (fUp_ok t1))) rfl
end DL.K77
set_option Elab.async false
set_option linter.all false
set_option maxRecDepth 100000
set_option maxHeartbeats 1000000
namespace DL.K77
open PySem PySem.Spec PyProof.Rows L2
theorem fSeq_rt {f g : Env → R Fl} {env e : Env} {m : M} (h : f env = .ok (.rt m) e) : fSeq f g env = .ok (.rt m) e := by
  unfold fSeq
  rw [h]
  rfl
theorem gSl_s {t : Str} {lo hi : Option Int} (h : t.length ≤ 16777216) : gSl (.str t) lo hi = some (.str (cutS t lo hi)) := by
  unfold gSl
  dsimp only
  rw [if_pos (by rw [sizeLine_eq]; exact h)]
def restT (t : Str) : Str := cutS t (some 7) none
def headT (t : Str) : Str := cutS t none (some 7)
def hdS (name : Str) (page side : Nat) : Str := Str.empty ++ name ++ " " ++ iS page ++ " " ++ iS side ++ " "
def Bal (t : Str) : Prop := headT t = pad6 (sumS (restT t)) ++ " "
theorem fPar_ok {i j : Nat} {fr : Env → R (List Arg)} {env e : Env} {x y : D} (h : fr env = .ok [.d x, .d y] e) : fPar i j fr env = .ok .nx ((e.set i (some (.d x))).set j (some (.d y))) := by
  unfold fPar
  rw [h]
  rfl
/-- the reading's own steps behind the first two -/
def rdG : Env → R Fl := (fSeq (fIf (fOr (fB (f2 gNe (fSl (fVar 3) fNoPart (fPart (fC (.int 7)))) (fJoined (fJ (f1 gFmt6 (fFrz (fCall b_half_sum F_half_sum (fConsA (fVar 4) fNilA)))) (fJ (fC (.str (" " : Str))) fJ0))))) (fNot (fB (f2S gStarts (fVar 4) (fVar 5))))) (fRet (fUp (fC PyData.none))) fNx) (fSeq (fAsg (f2S gPart (fSl (fVar 4) (fPart (f1 gLen (fVar 5))) fNoPart) (fC (.str (" " : Str)))) (gT (gCons (gN 6) (gCons (gN 7) (gCons (gN 8) gNil))))) (fSeq (fIf (fOr (fB (f2 gEq (fVar 7) (fC (.str ("" : Str))))) (fNot (fB (fFrz (fCall b_is_figures F_is_figures (fConsA (fVar 6) fNilA)))))) (fRet (fUp (fC PyData.none))) fNx) (fRet (fUp (fTup (fConsA (f1 gInt (fVar 6)) (fConsA (fVar 8) fNilA))))))))
def rd0 (name t : Str) (page side : Nat) : Env := [some (.d (.str name)), some (.d (.int page)), some (.d (.int side)), some (.d (.str t)), none, none, none, none, none]
def rd2 (name t : Str) (page side : Nat) : Env := [some (.d (.str name)), some (.d (.int page)), some (.d (.int side)), some (.d (.str t)), some (.d (.str (restT t))), some (.d (.str (hdS name page side))), none, none, none]
theorem hdS_len {name : Str} {page side : Nat} (h1 : name.length ≤ 100) (h2 : page < 10 ^ 14) (h3 : side < 10 ^ 14) : (hdS name page side).length ≤ 140 := by
  have a1 := iS_len h2
  have a2 := iS_len h3
  unfold hdS
  simp only [appLen, blank_len, empty_len]
  omega
theorem eq_empty (t : Str) : gEq (.str t) (.str ("" : Str)) = some (.bool (decide (t = ("" : Str)))) := rfl
theorem rd_pre {name t : Str} {page side : Nat} (h1 : name.length ≤ 100) (h2 : page < 10 ^ 14) (h3 : side < 10 ^ 14) (h5 : t.length ≤ 200000) (ht : t ≠ ("" : Str)) : d_read_half (rd0 name t page side) = rdG (rd2 name t page side) := by
  have a1 := iS_len h2
  have a2 := iS_len h3
  have bl := blank_len
  have em := empty_len
  have t0 : fB (f2 gEq (fVar 3) (fC (.str ("" : Str)))) (rd0 name t page side) = .ok false (rd0 name t page side) := by
    refine fB_ok (f2_ok (e1 := rd0 name t page side) (a := .str t) (b := .str ("" : Str)) rfl rfl ?_)
    rw [eq_empty, decide_eq_false ht]
  have k0 : fSl (fVar 3) (fPart (fC (.int 7))) fNoPart (rd0 name t page side) = .ok (.str (restT t)) (rd0 name t page side) := by
    show R.of (gSl (.str t) (some 7) none) (rd0 name t page side) = _
    rw [gSl_s (by omega)]
    rfl
  have j0 : fJoined (fJ (f1 gFmt (fVar 0)) (fJ (fC (.str (" " : Str))) (fJ (f1 gFmt (fVar 1)) (fJ (fC (.str (" " : Str))) (fJ (f1 gFmt (fVar 2)) (fJ (fC (.str (" " : Str))) fJ0)))))) (rd0 name t page side) = .ok (.str (hdS name page side)) (rd0 name t page side) := by
    refine fJoined_ok (y := hdS name page side) ?_
    refine (fJ_ok (y := name) (e1 := rd0 name t page side) (f1_ok (e := rd0 name t page side) (d := .str name) rfl (gFmt_s (by omega))) (by omega)).trans ?_
    refine (fJ_ok (e1 := rd0 name t page side) (fa := fC (.str (" " : Str))) (y := " ") rfl (by simp only [appLen]; omega)).trans ?_
    refine (fJ_ok (y := iS page) (e1 := rd0 name t page side) (f1_ok (e := rd0 name t page side) (d := .int (page : Nat)) rfl (gFmt_i h2)) (by simp only [appLen]; omega)).trans ?_
    refine (fJ_ok (e1 := rd0 name t page side) (fa := fC (.str (" " : Str))) (y := " ") rfl (by simp only [appLen]; omega)).trans ?_
    refine (fJ_ok (y := iS side) (e1 := rd0 name t page side) (f1_ok (e := rd0 name t page side) (d := .int (side : Nat)) rfl (gFmt_i h3)) (by simp only [appLen]; omega)).trans ?_
    refine (fJ_ok (e1 := rd0 name t page side) (fa := fC (.str (" " : Str))) (y := " ") rfl (by simp only [appLen]; omega)).trans ?_
    rfl
  have s0 : ∀ g : Env → R Fl, fIf (fB (f2 gEq (fVar 3) (fC (.str ("" : Str))))) g fNx (rd0 name t page side) = .ok .nx (rd0 name t page side) := fun g => (fIf_f t0).trans rfl
  have s1 := fPar_ok (i := 4) (j := 5) (fConsA_ok k0 (fConsA_ok j0 fNilA_ok))
  unfold d_read_half
  exact (fSeq_ok (s0 _)).trans (fSeq_ok s1)
theorem read_run {name t : Str} {page side : Nat} {m : M} {e : Env} (h : d_read_half (rd0 name t page side) = .ok (.rt m) e) (he : outs b_read_half e = some []) : F_read_half [.d (.str name), .d (.int page), .d (.int side), .d (.str t)] = .ok m [] := runF_rt rfl h he
theorem ne_str (x y : Str) : gNe (.str x) (.str y) = some (.bool (!decide (x = y))) := rfl
theorem rd_test1 {name t : Str} {page side : Nat} (h5 : t.length ≤ 200000) : fB (f2 gNe (fSl (fVar 3) fNoPart (fPart (fC (.int 7)))) (fJoined (fJ (f1 gFmt6 (fFrz (fCall b_half_sum F_half_sum (fConsA (fVar 4) fNilA)))) (fJ (fC (.str (" " : Str))) fJ0)))) (rd2 name t page side) =
    .ok (!decide (headT t = pad6 (sumS (restT t)) ++ " ")) (rd2 name t page side) := by
  have hl : (restT t).length ≤ 200000 := Nat.le_trans (cut_len _ _ _) h5
  have bl := blank_len
  have em := empty_len
  have hp := pad6_len (sumS_lt (restT t))
  have k0 : fSl (fVar 3) fNoPart (fPart (fC (.int 7))) (rd2 name t page side) = .ok (.str (headT t)) (rd2 name t page side) := by
    show R.of (gSl (.str t) none (some 7)) (rd2 name t page side) = _
    rw [gSl_s (by omega)]
    rfl
  have c1 : fFrz (fCall b_half_sum F_half_sum (fConsA (fVar 4) fNilA)) (rd2 name t page side) = .ok (.int (sumS (restT t) : Nat)) (rd2 name t page side) :=
    fFrz_ok (call_ok (as := [.d (.str (restT t))]) (e := rd2 name t page side) rfl (by simp [slotsOf]) rfl rfl (e_half_sum _ (by omega)))
  have j0 : fJoined (fJ (f1 gFmt6 (fFrz (fCall b_half_sum F_half_sum (fConsA (fVar 4) fNilA)))) (fJ (fC (.str (" " : Str))) fJ0)) (rd2 name t page side) = .ok (.str (pad6 (sumS (restT t)) ++ " ")) (rd2 name t page side) := by
    refine fJoined_ok (y := pad6 (sumS (restT t)) ++ " ") ?_
    refine (fJ_ok (e1 := rd2 name t page side) (y := pad6 (sumS (restT t))) (f1_ok c1 (gFmt6_s (sumS_lt _))) (by omega)).trans ?_
    refine (fJ_ok (e1 := rd2 name t page side) (fa := fC (.str (" " : Str))) (y := " ") rfl (by simp only [appLen]; omega)).trans ?_
    show R.ok (Str.empty ++ pad6 (sumS (restT t)) ++ " ") _ = _
    congr 1
    apply Str.extL
    simp only [appL, emptyL]
    simp
  exact fB_ok (f2_ok k0 j0 (ne_str _ _))
/-- what is not balanced is not sound -/
theorem e_read_off {name t : Str} {page side : Nat} (h1 : name.length ≤ 100) (h2 : page < 10 ^ 14) (h3 : side < 10 ^ 14) (h5 : t.length ≤ 200000) (ht : t ≠ ("" : Str)) (hb : ¬ Bal t) :
    F_read_half [.d (.str name), .d (.int page), .d (.int side), .d (.str t)] = .ok (.d .none) [] := by
  have t1 := rd_test1 (name := name) (page := page) (side := side) h5
  unfold Bal at hb
  rw [decide_eq_false hb] at t1
  refine read_run (e := rd2 name t page side) ((rd_pre h1 h2 h3 h5 ht).trans ?_) rfl
  unfold rdG
  refine fSeq_rt ((fIf_t (e := rd2 name t page side) ?_).trans rfl)
  unfold fOr
  rw [t1]
  rfl
end DL.K77
set_option Elab.async false
set_option linter.all false
set_option maxRecDepth 100000
set_option maxHeartbeats 1000000
namespace DL.K77
open PySem PySem.Spec PyProof.Rows L2
theorem blank_is : (" " : Str) = ⟨#[32]⟩ := by decide
theorem mkL (l : List Nat) : (⟨l.toArray⟩ : Str).cps.toList = l := rfl
theorem at_blank (x : Str) (i : Nat) : StrLaws.At x (" " : Str) x.length i ↔ x.cps.toList[i]? = some 32 := by
  rw [blank_is]
  exact StrLaws.subAt_one x 32 i
theorem part_blank {x : Str} {a b : List Nat} (hx : x.cps.toList = a ++ 32 :: b) (ha : 32 ∉ a) : Txt.partition x (" " : Str) = (⟨a.toArray⟩, (" " : Str), ⟨b.toArray⟩) := by
  have hmem : 32 ∈ x.cps.toList := by rw [hx]; simp
  have hsum := PySem.StrLaws.partition_sum x (" " : Str)
  have h2 : (Txt.partition x (" " : Str)).2.1 = (" " : Str) := by
    have he := empty_one x 32
    rw [decide_eq_true hmem, ← blank_is] at he
    unfold Txt.partition
    cases ho : Builtin.Str.occurrences x (" " : Str) 0 x.length 1 with
    | nil => rw [ho] at he; cases he
    | cons i r => rfl
  have h1 : (Txt.partition x (" " : Str)).1 = ⟨a.toArray⟩ := by
    have hat : x.cps.toList[a.length]? = some 32 := by rw [hx]; simp
    rcases partition_head x (" " : Str) with ⟨_, h⟩ | ⟨i, e, h, hmin⟩
    · exact absurd ((at_blank x a.length).mpr hat) (h a.length)
    · have hi := (at_blank x i).mp h
      have h3 : ¬ i < a.length := fun hlt => by
        rw [hx, List.getElem?_append_left hlt] at hi
        exact ha (List.mem_of_getElem? hi)
      have h4 : ¬ a.length < i := fun hlt => hmin a.length hlt ((at_blank x a.length).mpr hat)
      have h5 : i = a.length := by omega
      subst h5
      rw [e]
      apply Str.extL
      unfold Builtin.Str.strSub
      show (x.cps.extract 0 a.length).toList = a
      rw [Array.toList_extract, hx]
      simp
  have h3 : (Txt.partition x (" " : Str)).2.2 = ⟨b.toArray⟩ := by
    rw [h1, h2] at hsum
    apply Str.extL
    have := congrArg (fun s : Str => s.cps.toList) hsum
    simp only [appL, blankL, hx] at this
    simpa using this
  exact Prod.ext h1 (Prod.ext h2 h3)
theorem cutL {x : Str} {lo hi : Option Int} : (cutS x lo hi).cps.toList = (x.cps.toList.drop (HT.sIx x.length 0 lo)).take (HT.sIx x.length x.length hi - HT.sIx x.length 0 lo) := rfl
theorem cut_take (x : Str) (k : Nat) (h : k ≤ x.length) : (cutS x none (some (k : Int))).cps.toList = x.cps.toList.take k := by
  rw [cutL, HT.sIx_none, HT.sIx_nat, Nat.min_eq_left h]
  simp
theorem cut_drop (x : Str) (k : Nat) (h : k ≤ x.length) : (cutS x (some (k : Int)) none).cps.toList = x.cps.toList.drop k := by
  have hl : x.cps.toList.length = x.length := by simp [Str.length]
  rw [cutL, HT.sIx_none, HT.sIx_nat, Nat.min_eq_left h, List.take_of_length_le (by rw [List.length_drop, hl]; omega)]
theorem pad6_L (n : Nat) : (pad6 n).cps.toList = List.replicate (6 - (dig n).length) 48 ++ dig n := by
  have hdl : (dig n).length = (Nat.toDigits 10 n).length := by unfold dig; rw [List.length_map]
  rw [hdl]
  rfl
theorem halfS_L (name part : Str) (page side number : Nat) : (halfS name page side number part).cps.toList = (pad6 (sumS (restS name page side number part))).cps.toList ++ (32 :: (restS name page side number part).cps.toList) := by
  unfold halfS
  simp only [appL, blankL, emptyL]
  simp
theorem lenL (x : Str) : x.length = x.cps.toList.length := by simp [Str.length]
theorem half_rest (name part : Str) (page side number : Nat) : restT (halfS name page side number part) = restS name page side number part ∧ headT (halfS name page side number part) = pad6 (sumS (restS name page side number part)) ++ " " := by
  have hp : (pad6 (sumS (restS name page side number part))).cps.toList.length = 6 := by rw [← lenL]; exact pad6_len (sumS_lt _)
  have hl : 7 ≤ (halfS name page side number part).length := by
    rw [lenL, halfS_L, List.length_append, hp, List.length_cons]
    omega
  refine ⟨Str.extL ?_, Str.extL ?_⟩
  · unfold restT
    have := cut_drop (halfS name page side number part) 7 hl
    rw [show ((7 : Nat) : Int) = 7 from rfl] at this
    rw [this, halfS_L, List.drop_append, hp, List.drop_of_length_le (by omega)]
    rfl
  · unfold headT
    have := cut_take (halfS name page side number part) 7 hl
    rw [show ((7 : Nat) : Int) = 7 from rfl] at this
    rw [this, halfS_L, List.take_append, hp, appL, blankL, List.take_of_length_le (by omega)]
    rfl
theorem half_bal (name part : Str) (page side number : Nat) : Bal (halfS name page side number part) := by
  obtain ⟨h1, h2⟩ := half_rest name part page side number
  unfold Bal
  rw [h1, h2]
end DL.K77
set_option Elab.async false
set_option linter.all false
set_option maxRecDepth 100000
set_option maxHeartbeats 1000000
namespace DL.K77
open PySem PySem.Spec PyProof.Rows L2
theorem starts_iff (x y : Str) : Txt.startswith x y = true ↔ y.cps.toList <+: x.cps.toList := by
  unfold Txt.startswith Builtin.Str.subAt
  rw [Bool.and_eq_true, decide_eq_true_eq, beq_iff_eq]
  simp only [Nat.zero_add]
  constructor
  · rintro ⟨h1, h2⟩
    have h3 := congrArg Array.toList h2
    rw [Array.toList_extract] at h3
    simp at h3
    rw [← h3]
    exact List.take_prefix _ _
  · intro h
    refine ⟨by rw [lenL x, lenL y]; exact h.length_le, ?_⟩
    apply Array.toList_inj.mp
    rw [Array.toList_extract]
    have := List.prefix_iff_eq_take.mp h
    rw [lenL y]
    simp
    exact this.symm
theorem hdS_L (name : Str) (page side : Nat) : (hdS name page side).cps.toList = name.cps.toList ++ (32 :: (dig page ++ (32 :: (dig side ++ [32])))) := by
  unfold hdS
  simp only [appL, blankL, emptyL, iS_L]
  simp
theorem rest_hd (name part : Str) (page side number : Nat) : (restS name page side number part).cps.toList = (hdS name page side).cps.toList ++ (dig number ++ (32 :: part.cps.toList)) := by
  rw [restS_L, hdS_L]
  simp
/-- balanced, but of another place -/
theorem e_read_else {name t : Str} {page side : Nat} (h1 : name.length ≤ 100) (h2 : page < 10 ^ 14) (h3 : side < 10 ^ 14) (h5 : t.length ≤ 200000) (ht : t ≠ ("" : Str)) (hb : Bal t) (hs : ¬ (hdS name page side).cps.toList <+: (restT t).cps.toList) :
    F_read_half [.d (.str name), .d (.int page), .d (.int side), .d (.str t)] = .ok (.d .none) [] := by
  have t1 := rd_test1 (name := name) (page := page) (side := side) h5
  unfold Bal at hb
  rw [decide_eq_true hb] at t1
  have t2 : fB (f2S gStarts (fVar 4) (fVar 5)) (rd2 name t page side) = .ok false (rd2 name t page side) := by
    refine fB_ok (f2S_ok (e1 := rd2 name t page side) (a := restT t) (b := .str (hdS name page side)) rfl rfl ?_)
    show some (PyData.bool (Txt.startswith (restT t) (hdS name page side))) = _
    congr 2
    cases hst : Txt.startswith (restT t) (hdS name page side) with
    | false => rfl
    | true => exact absurd ((starts_iff _ _).mp hst) hs
  refine read_run (e := rd2 name t page side) ((rd_pre h1 h2 h3 h5 ht).trans ?_) rfl
  unfold rdG
  refine fSeq_rt ((fIf_t (e := rd2 name t page side) ?_).trans rfl)
  unfold fOr
  rw [t1]
  show fNot (fB (f2S gStarts (fVar 4) (fVar 5))) (rd2 name t page side) = _
  unfold fNot
  rw [t2]
  rfl
/-- a number's figures are figures -/
theorem figS_L : ("0123456789" : Str).cps.toList = [48, 49, 50, 51, 52, 53, 54, 55, 56, 57] := by decide
theorem in_fig {c : Nat} (h : 48 ≤ c ∧ c ≤ 57) : gIn (.str ⟨#[c]⟩) (.str ("0123456789" : Str)) = some (.bool true) := by
  show some (PyData.bool (decide (c ∈ ("0123456789" : Str).cps.toList))) = _
  rw [figS_L]
  obtain ⟨h1, h2⟩ := h
  have : c = 48 ∨ c = 49 ∨ c = 50 ∨ c = 51 ∨ c = 52 ∨ c = 53 ∨ c = 54 ∨ c = 55 ∨ c = 56 ∨ c = 57 := by omega
  rcases this with rfl | rfl | rfl | rfl | rfl | rfl | rfl | rfl | rfl | rfl <;> rfl
theorem dig_top {n : Nat} (h : 0 < n) : ∃ c r, dig n = c :: r ∧ 49 ≤ c ∧ c ≤ 57 := by
  induction n using Nat.strongRecOn with
  | _ n ih =>
    by_cases h10 : n < 10
    · refine ⟨48 + n, [], TL.numL_lt h10, by omega, by omega⟩
    · obtain ⟨c, r, e, h1, h2⟩ := ih (n / 10) (by omega) (by omega)
      refine ⟨c, r ++ [48 + n % 10], ?_, h1, h2⟩
      rw [dig_num, TL.numL_step (by omega), ← dig_num, e]
      rfl
theorem e_figures {n : Nat} (h0 : 0 < n) (hn : n < 10 ^ 12) : F_is_figures [.d (.str (iS n))] = .ok (.d (.bool true)) [] := by
  have hL := iS_L n
  have hlen : (iS n).length = (dig n).length := by rw [lenL, hL]
  have hd12 : (dig n).length ≤ 12 := by
    unfold dig
    rw [List.length_map]
    exact digits10_le (by decide) hn
  obtain ⟨c, r, hcr, hc1, hc2⟩ := dig_top h0
  let e0 : Env := [some (.d (.str (iS n))), none]
  have t1 : fB (f2 gEq (fVar 0) (fC (.str ("" : Str)))) e0 = .ok false e0 := by
    refine fB_ok (f2_ok (e1 := e0) (a := .str (iS n)) (b := .str ("" : Str)) rfl rfl ?_)
    rw [eq_empty, decide_eq_false]
    intro z
    have := congrArg (fun s : Str => s.cps.toList) z
    simp only [hL, hcr] at this
    cases this
  have g0 : gLen (.str (iS n)) = some (.int (iS n).length) := by
    unfold gLen
    dsimp only
    rw [if_pos (by rw [sizeLine_eq]; omega)]
  have t2 : fB (f2 gGt (f1 gLen (fVar 0)) (fC (.int 12))) e0 = .ok false e0 := by
    refine fB_ok (f2_ok (e1 := e0) (a := .int (iS n).length) (b := .int 12) (f1_ok (e := e0) rfl g0) rfl ?_)
    show some (PyData.bool (decide ((12 : Int) < ((iS n).length : Nat)))) = _
    rw [decide_eq_false (by omega)]
  have g1 : gIx (.str (iS n)) (.int 0) = some (sign1 c) := by
    unfold gIx
    dsimp only
    rw [if_pos (by rw [sizeLine_eq]; omega), hL, hcr]
    have z : atI (c :: r) ((0 : Nat) : Int) = some c := atI_nat (j := 0) rfl
    exact congrArg (Option.map sign1) z
  have t3 : fB (f2 gEq (f2 gIx (fVar 0) (fC (.int 0))) (fC (.str ("0" : Str)))) e0 = .ok false e0 := by
    refine fB_ok (f2_ok (e1 := e0) (a := sign1 c) (b := .str ("0" : Str)) (f2_ok (e1 := e0) rfl rfl g1) rfl ?_)
    show some (PyData.bool (decide ((⟨#[c]⟩ : Str) = ("0" : Str)))) = _
    rw [decide_eq_false]
    intro z
    have := congrArg (fun s : Str => s.cps.toList) z
    have h0 : ("0" : Str).cps.toList = [48] := by decide
    simp only [h0] at this
    simp at this
    omega
  have s0 : fIf (fOr (fB (f2 gEq (fVar 0) (fC (.str ("" : Str))))) (fOr (fB (f2 gGt (f1 gLen (fVar 0)) (fC (.int 12)))) (fB (f2 gEq (f2 gIx (fVar 0) (fC (.int 0))) (fC (.str ("0" : Str))))))) (fRet (fUp (fC (.bool false)))) fNx e0 = .ok .nx e0 := by
    refine (fIf_f (e := e0) ?_).trans rfl
    unfold fOr
    rw [t1]
    show (R.bind (fB (f2 gGt (f1 gLen (fVar 0)) (fC (.int 12))) e0) _) = _
    rw [t2]
    show fB (f2 gEq (f2 gIx (fVar 0) (fC (.int 0))) (fC (.str ("0" : Str)))) e0 = _
    exact t3
  have h1 := lcL_map (own := [1]) (g := gN 1) (fc := fYes) (fe := f2 gIn (fVar 1) (fC (.str ("0123456789" : Str)))) (ds := (dig n).map sign1) (e := e0) (fun _ => some (.bool true)) (by rw [List.length_map, sizeLine_eq]; omega) (fun d hd => by
    obtain ⟨q, hq, rfl⟩ := List.mem_map.mp hd
    have z : f2 gIn (fVar 1) (fC (.str ("0123456789" : Str))) [some (.d (.str (iS n))), some (.d (sign1 q))] = .ok (.bool true) [some (.d (.str (iS n))), some (.d (sign1 q))] := f2_ok (e1 := [some (.d (.str (iS n))), some (.d (sign1 q))]) (a := sign1 q) rfl rfl (in_fig (dig_mem hq))
    have z1 : gN 1 (sign1 q) e0 = some [some (.d (.str (iS n))), some (.d (sign1 q))] := rfl
    have z2 : fYes [some (.d (.str (iS n))), some (.d (sign1 q))] = .ok true [some (.d (.str (iS n))), some (.d (sign1 q))] := rfl
    unfold lcTurn
    rw [z1]
    dsimp only
    rw [z2]
    dsimp only
    rw [z]
    rfl)
  have e1 : (fIt itS (fVar 0)) e0 = .ok ((dig n).map sign1) e0 := by
    refine fIt_ok (e := e0) (d := .str (iS n)) rfl ?_
    show some ((iS n).cps.toList.map sign1) = _
    rw [hL]
  have e2 := fFrz_ok (fLc_ok e1 h1)
  rw [frz_mds] at e2
  have ga : ∀ l : List D, gAll (.list (l.filterMap fun _ => some (.bool true))) = some (.bool true) := by
    intro l
    have : allB (l.filterMap fun _ => some (.bool true)) = some (l.map fun _ => true) := by
      induction l with
      | nil => rfl
      | cons x r ih =>
        show (allB (r.filterMap fun _ => some (.bool true))).map (true :: ·) = _
        rw [ih]
        rfl
    unfold gAll
    dsimp only
    rw [this]
    show some (PyData.bool ((l.map fun _ => true).all id)) = _
    congr 2
    induction l with
    | nil => rfl
    | cons x r ih => simp
  exact runF_rt rfl ((fSeq_ok s0).trans (fRet_ok (fUp_ok (f1_ok e2 (ga _))))) rfl
end DL.K77
set_option Elab.async false
set_option linter.all false
set_option maxRecDepth 100000
set_option maxHeartbeats 1000000
namespace DL.K77
open PySem PySem.Spec PyProof.Rows L2
theorem fAsg_ok {f : Env → R D} {g : D → Env → Option Env} {env e e' : Env} {d : D} (h : f env = .ok d e) (hg : g d e = some e') : fAsg f g env = .ok .nx e' := by
  unfold fAsg
  rw [h]
  show (match g d e with | some e' => R.ok Fl.nx e' | none => .stuck) = _
  rw [hg]
/-- what was written is told -/
theorem e_read_sound {name part : Str} {page side n : Nat} (h1 : name.length ≤ 100) (h2 : page < 10 ^ 14) (h3 : side < 10 ^ 14) (h0 : 0 < n) (hn : n < 10 ^ 12) (h5 : part.length ≤ 99000) :
    F_read_half [.d (.str name), .d (.int page), .d (.int side), .d (.str (halfS name page side n part))] = .ok (.d (.tuple [.int n, .str part])) [] := by
  have hn14 : n < 10 ^ 14 := Nat.lt_of_lt_of_le hn (by decide)
  obtain ⟨hr, hh⟩ := half_rest name part page side n
  have hrl := restS_len h1 h2 h3 hn14 (part := part) (by omega)
  have hhl := hdS_len h1 h2 h3
  have hp6 := pad6_len (sumS_lt (restS name page side n part))
  have hlen : (halfS name page side n part).length ≤ 200000 := by
    rw [lenL, halfS_L, List.length_append, List.length_cons, ← lenL, ← lenL, hp6]
    omega
  have hne : halfS name page side n part ≠ ("" : Str) := by
    intro z
    have := congrArg (fun s : Str => s.cps.toList.length) z
    simp only [halfS_L, List.length_append, List.length_cons] at this
    have e0 : ("" : Str).cps.toList.length = 0 := by decide
    rw [e0] at this
    omega
  have hb := half_bal name part page side n
  have t1 := rd_test1 (name := name) (page := page) (side := side) hlen
  unfold Bal at hb
  rw [decide_eq_true hb] at t1
  generalize ht : halfS name page side n part = t at *
  have hst : Txt.startswith (restT t) (hdS name page side) = true := by
    rw [starts_iff, hr, rest_hd]
    exact List.prefix_append _ _
  have t2 : fB (f2S gStarts (fVar 4) (fVar 5)) (rd2 name t page side) = .ok true (rd2 name t page side) := by
    refine fB_ok (f2S_ok (e1 := rd2 name t page side) (a := restT t) (b := .str (hdS name page side)) rfl rfl ?_)
    show some (PyData.bool (Txt.startswith (restT t) (hdS name page side))) = _
    rw [hst]
  have s1 : ∀ g : Env → R Fl, fIf (fOr (fB (f2 gNe (fSl (fVar 3) fNoPart (fPart (fC (.int 7)))) (fJoined (fJ (f1 gFmt6 (fFrz (fCall b_half_sum F_half_sum (fConsA (fVar 4) fNilA)))) (fJ (fC (.str (" " : Str))) fJ0))))) (fNot (fB (f2S gStarts (fVar 4) (fVar 5))))) g fNx (rd2 name t page side) = .ok .nx (rd2 name t page side) := by
    intro g
    refine (fIf_f (e := rd2 name t page side) ?_).trans rfl
    unfold fOr
    rw [t1]
    show fNot (fB (f2S gStarts (fVar 4) (fVar 5))) (rd2 name t page side) = _
    unfold fNot
    rw [t2]
    rfl
  -- the number, a blank, the part
  let tail : Str := cutS (restT t) (some (((hdS name page side).length : Nat) : Int)) none
  have hle : (hdS name page side).length ≤ (restT t).length := by
    rw [hr, lenL, lenL, rest_hd, List.length_append]
    omega
  have htail : tail.cps.toList = dig n ++ 32 :: part.cps.toList := by
    show (cutS (restT t) (some (((hdS name page side).length : Nat) : Int)) none).cps.toList = _
    rw [cut_drop _ _ hle, hr, rest_hd, lenL, List.drop_left]
  have hfree : 32 ∉ dig n := fun z => by have := dig_mem z; omega
  have hpart := part_blank htail hfree
  have hiS : (⟨(dig n).toArray⟩ : Str) = iS n := Str.extL (by rw [iS_L])
  have hpt : (⟨part.cps.toList.toArray⟩ : Str) = part := Str.extL rfl
  rw [hiS, hpt] at hpart
  let e3 : Env := [some (.d (.str name)), some (.d (.int page)), some (.d (.int side)), some (.d (.str t)), some (.d (.str (restT t))), some (.d (.str (hdS name page side))), some (.d (.str (iS n))), some (.d (.str (" " : Str))), some (.d (.str part))]
  have g0 : gLen (.str (hdS name page side)) = some (.int (hdS name page side).length) := by
    unfold gLen
    dsimp only
    rw [if_pos (by rw [sizeLine_eq]; omega)]
  have k0 : fSl (fVar 4) (fPart (f1 gLen (fVar 5))) fNoPart (rd2 name t page side) = .ok (.str tail) (rd2 name t page side) := by
    have p0 : fPart (f1 gLen (fVar 5)) (rd2 name t page side) = .ok (some ((hdS name page side).length : Int)) (rd2 name t page side) := by
      have q0 : f1 gLen (fVar 5) (rd2 name t page side) = .ok (.int (hdS name page side).length) (rd2 name t page side) := f1_ok (e := rd2 name t page side) (d := .str (hdS name page side)) rfl g0
      unfold fPart
      rw [q0]
      rfl
    unfold fSl
    show (fPart (f1 gLen (fVar 5)) (rd2 name t page side)).bind _ = _
    rw [p0]
    show R.of (gSl (.str (restT t)) (some ((hdS name page side).length : Int)) none) _ = _
    rw [gSl_s (by rw [hr]; omega)]
    rfl
  have htl : tail.length ≤ 16777216 := Nat.le_trans (cut_len _ _ _) (by rw [hr]; omega)
  have k1 : f2S gPart (fSl (fVar 4) (fPart (f1 gLen (fVar 5))) fNoPart) (fC (.str (" " : Str))) (rd2 name t page side) = .ok (.tuple [.str (iS n), .str (" " : Str), .str part]) (rd2 name t page side) := by
    refine f2S_ok (e1 := rd2 name t page side) k0 rfl ?_
    unfold gPart
    dsimp only
    rw [if_pos ⟨by decide, by rw [sizeLine_eq]; exact htl⟩, hpart]
  have s2 : fAsg (f2S gPart (fSl (fVar 4) (fPart (f1 gLen (fVar 5))) fNoPart) (fC (.str (" " : Str)))) (gT (gCons (gN 6) (gCons (gN 7) (gCons (gN 8) gNil)))) (rd2 name t page side) = .ok .nx e3 := fAsg_ok k1 rfl
  have c3 : fFrz (fCall b_is_figures F_is_figures (fConsA (fVar 6) fNilA)) e3 = .ok (.bool true) e3 :=
    fFrz_ok (call_ok (as := [.d (.str (iS n))]) (e := e3) rfl (by simp [slotsOf]) rfl rfl (e_figures h0 hn))
  have t3 : fB (f2 gEq (fVar 7) (fC (.str ("" : Str)))) e3 = .ok false e3 := by
    refine fB_ok (f2_ok (e1 := e3) (a := .str (" " : Str)) (b := .str ("" : Str)) rfl rfl ?_)
    rw [eq_empty, decide_eq_false (by decide)]
  have s3 : ∀ g : Env → R Fl, fIf (fOr (fB (f2 gEq (fVar 7) (fC (.str ("" : Str))))) (fNot (fB (fFrz (fCall b_is_figures F_is_figures (fConsA (fVar 6) fNilA)))))) g fNx e3 = .ok .nx e3 := by
    intro g
    refine (fIf_f (e := e3) ?_).trans rfl
    unfold fOr
    rw [t3]
    show fNot (fB (fFrz (fCall b_is_figures F_is_figures (fConsA (fVar 6) fNilA)))) e3 = _
    unfold fNot
    rw [fB_ok c3]
    rfl
  have hd12 : (dig n).length ≤ 12 := by
    unfold dig
    rw [List.length_map]
    exact digits10_le (by decide) hn
  have gi : gInt (.str (iS n)) = some (.int n) := by
    unfold gInt
    dsimp only
    rw [if_pos (by rw [lenL, iS_L]; omega)]
    have := TL.int_num (n := n) (by rw [← dig_num]; omega)
    show (PySem.intText? (iS n)).map PyData.int = _
    rw [show PySem.intText? (iS n) = some (n : Int) from this]
    rfl
  have r1 : fTup (fConsA (f1 gInt (fVar 6)) (fConsA (fVar 8) fNilA)) e3 = .ok (.tuple [.int n, .str part]) e3 :=
    fTup_ok (fConsA_ok (f1_ok (e := e3) (d := .str (iS n)) rfl gi) (fConsA_ok (e1 := e3) rfl fNilA_ok)) rfl (by simp)
  refine read_run (e := e3) ((rd_pre h1 h2 h3 hlen hne).trans ?_) rfl
  unfold rdG
  exact (fSeq_ok (s1 _)).trans ((fSeq_ok s2).trans ((fSeq_ok (s3 _)).trans (fRet_ok (fUp_ok r1))))
end DL.K77
set_option Elab.async false
set_option linter.all false
set_option maxRecDepth 100000
set_option maxHeartbeats 1000000
namespace DL.K77
open PySem PySem.Spec PyProof.Rows L2
/-! ### no near text is balanced -/
def wt (k : Nat) : Int := match k with
  | 0 => -100000
  | 1 => -10000
  | 2 => -1000
  | 3 => -100
  | 4 => -10
  | 5 => -1
  | k + 6 => k
def lin : Nat → List Nat → Int
  | _, [] => 0
  | k, c :: r => wt k * c + lin (k + 1) r
theorem lin_append : ∀ (k : Nat) (a b : List Nat), lin k (a ++ b) = lin k a + lin (k + a.length) b
  | k, [], b => by simp [lin]
  | k, c :: a, b => by
    rw [List.cons_append, lin, lin, lin_append (k + 1) a b, List.length_cons]
    have : k + 1 + a.length = k + (a.length + 1) := by omega
    rw [this]
    omega
theorem lin_sum : ∀ (k : Nat) (l : List Nat), lin (k + 6) l = (wsum k l : Nat)
  | _, [] => rfl
  | k, c :: r => by
    rw [lin, wsum]
    have h := lin_sum (k + 1) r
    have e : k + 1 + 6 = k + 6 + 1 := by omega
    rw [e] at h
    rw [h]
    show ((k : Nat) : Int) * c + _ = _
    push_cast
    rfl
theorem lin_set : ∀ (k : Nat) (l : List Nat) (i x c : Nat), l[i]? = some x → lin k (l.set i c) = lin k l + wt (k + i) * ((c : Int) - x)
  | _, [], _, _, _, h => by simp at h
  | k, y :: r, 0, x, c, h => by
    simp at h
    subst h
    show wt k * c + lin (k + 1) r = wt k * y + lin (k + 1) r + wt k * ((c : Int) - y)
    rw [Int.mul_sub]
    omega
  | k, y :: r, i + 1, x, c, h => by
    have h' : r[i]? = some x := by simpa using h
    rw [List.set_cons_succ, lin, lin, lin_set (k + 1) r i x c h']
    have e : k + 1 + i = k + (i + 1) := by omega
    rw [e]
    omega
theorem cut_take' (x : Str) (k : Nat) : (cutS x none (some (k : Int))).cps.toList = x.cps.toList.take k := by
  rw [cutL, HT.sIx_none, HT.sIx_nat, lenL, List.drop_zero, Nat.sub_zero, ← List.take_take, List.take_length]
theorem cut_drop' (x : Str) (k : Nat) : (cutS x (some (k : Int)) none).cps.toList = x.cps.toList.drop k := by
  rw [cutL, HT.sIx_none, HT.sIx_nat, lenL]
  by_cases h : k ≤ x.cps.toList.length
  · rw [Nat.min_eq_left h, List.take_of_length_le (by rw [List.length_drop]; omega)]
  · rw [Nat.min_eq_right (by omega), List.drop_of_length_le (Nat.le_refl _), List.drop_of_length_le (by omega), List.take_nil]
def padL (n : Nat) : List Nat := List.replicate (6 - (dig n).length) 48 ++ dig n
theorem padL_len {n : Nat} (h : n < 999983) : (padL n).length = 6 := by
  have := dig_len h
  unfold padL
  rw [List.length_append, List.length_replicate]
  omega
theorem padL_val (n : Nat) : NumText.digitsVal (padL n) = n := by
  have h := TL.numL_val n
  unfold padL
  rw [dig_num]
  have : ∀ k : Nat, NumText.digitsVal (List.replicate k 48 ++ TL.numL n) = NumText.digitsVal (TL.numL n) := by
    intro k
    induction k with
    | zero => rfl
    | succ k ih =>
      rw [List.replicate_succ, List.cons_append]
      refine Eq.trans ?_ ih
      rfl
  rw [this, h]
theorem padL_mem {n c : Nat} (h : c ∈ padL n) : 48 ≤ c ∧ c ≤ 57 := by
  rcases List.mem_append.mp h with z | z
  · rw [(List.mem_replicate.mp z).2]
    omega
  · exact dig_mem z
/-- a balanced text, sign by sign -/
theorem bal_lin {t : Str} (h : Bal t) : (lin 0 t.cps.toList + 5333328) % 999983 = 0 ∧ t.cps.toList[6]? = some 32 ∧ ∀ i < 6, ∃ c, t.cps.toList[i]? = some c ∧ 48 ≤ c ∧ c ≤ 57 := by
  have h1 : t.cps.toList.take 7 = padL (sumS (restT t)) ++ [32] := by
    have := congrArg (fun s : Str => s.cps.toList) h
    simp only [appL, blankL] at this
    rw [pad6_L] at this
    unfold headT at this
    have z := cut_take' t 7
    rw [show ((7 : Nat) : Int) = 7 from rfl] at z
    rw [z] at this
    exact this
  have h2 : sumS (restT t) = wsum 1 (t.cps.toList.drop 7) % 999983 := by
    unfold sumS restT
    have z := cut_drop' t 7
    rw [show ((7 : Nat) : Int) = 7 from rfl] at z
    rw [z]
  have hlt := sumS_lt (restT t)
  have hv := padL_val (sumS (restT t))
  have hl := padL_len hlt
  have hm : ∀ c ∈ padL (sumS (restT t)), 48 ≤ c ∧ c ≤ 57 := fun c hc => padL_mem hc
  have hL : t.cps.toList = padL (sumS (restT t)) ++ (32 :: t.cps.toList.drop 7) := by
    have := List.take_append_drop 7 t.cps.toList
    rw [h1] at this
    rw [List.append_assoc] at this
    exact this.symm
  generalize hP : padL (sumS (restT t)) = P at *
  generalize hD : t.cps.toList.drop 7 = Dd at *
  generalize hn : sumS (restT t) = n at *
  match P, hl with
  | [a, b, c, d, e, f], _ =>
    have ha := hm a (by simp)
    have hb := hm b (by simp)
    have hc := hm c (by simp)
    have hd := hm d (by simp)
    have he := hm e (by simp)
    have hf := hm f (by simp)
    refine ⟨?_, ?_, ?_⟩
    · rw [hL]
      have hs := lin_sum 1 Dd
      have e1 : lin 0 ([a, b, c, d, e, f] ++ 32 :: Dd) = -100000 * (a : Int) + (-10000 * b + (-1000 * c + (-100 * d + (-10 * e + (-1 * f + (0 * 32 + lin 7 Dd)))))) := rfl
      rw [e1, show lin 7 Dd = ((wsum 1 Dd : Nat) : Int) from hs]
      have e2 : NumText.digitsVal [a, b, c, d, e, f] = ((((((0 * 10 + (a - 48)) * 10 + (b - 48)) * 10 + (c - 48)) * 10 + (d - 48)) * 10 + (e - 48)) * 10 + (f - 48)) := by rfl
      rw [e2] at hv
      omega
    · rw [hL]
      rfl
    · intro i hi
      rw [hL]
      have : i = 0 ∨ i = 1 ∨ i = 2 ∨ i = 3 ∨ i = 4 ∨ i = 5 := by omega
      rcases this with rfl | rfl | rfl | rfl | rfl | rfl
      · exact ⟨a, rfl, ha⟩
      · exact ⟨b, rfl, hb⟩
      · exact ⟨c, rfl, hc⟩
      · exact ⟨d, rfl, hd⟩
      · exact ⟨e, rfl, he⟩
      · exact ⟨f, rfl, hf⟩
theorem wt_big {i : Nat} (h : 6 < i) (h2 : i ≤ 2000) : 1 ≤ wt i ∧ wt i ≤ 2000 := by
  obtain ⟨k, rfl⟩ : ∃ k, i = k + 6 := ⟨i - 6, by omega⟩
  show 1 ≤ ((k : Nat) : Int) ∧ ((k : Nat) : Int) ≤ 2000
  omega
theorem wt_low {i : Nat} (h : i < 6) : -100000 ≤ wt i ∧ wt i ≤ -1 := by
  have : i = 0 ∨ i = 1 ∨ i = 2 ∨ i = 3 ∨ i = 4 ∨ i = 5 := by omega
  rcases this with rfl | rfl | rfl | rfl | rfl | rfl <;> decide
theorem wt_inj {i j : Nat} (h1 : 6 < i) (h2 : i < j) : wt i < wt j := by
  obtain ⟨k, rfl⟩ : ∃ k, i = k + 6 := ⟨i - 6, by omega⟩
  obtain ⟨m, rfl⟩ : ∃ k, j = k + 6 := ⟨j - 6, by omega⟩
  show ((k : Nat) : Int) < ((m : Nat) : Int)
  omega
theorem wt_low_inj {i j : Nat} (h1 : i < j) (h2 : j < 6) : wt i < wt j := by
  have hj : j = 1 ∨ j = 2 ∨ j = 3 ∨ j = 4 ∨ j = 5 := by omega
  have hi : i = 0 ∨ i = 1 ∨ i = 2 ∨ i = 3 ∨ i = 4 := by omega
  rcases hj with rfl | rfl | rfl | rfl | rfl <;> rcases hi with rfl | rfl | rfl | rfl | rfl <;> first | decide | omega
/-- a product of small factors, neither of them nothing, is no multiple -/
theorem no_mult {w d m : Int} (hw : w ≠ 0) (hd : d ≠ 0) (hb : (w * d).natAbs < 999983) (h : (m + w * d) % 999983 = 0) (hm : m % 999983 = 0) : False := by
  have : w * d ≠ 0 := Int.mul_ne_zero hw hd
  omega
theorem abs_mul_lt {w d a b : Int} (h1 : w.natAbs ≤ a) (h2 : d.natAbs ≤ b) (h3 : a * b < 999983) (ha : 0 ≤ a) : (w * d).natAbs < 999983 := by
  rw [Int.natAbs_mul]
  have : ((w.natAbs * d.natAbs : Nat) : Int) ≤ a * b := by
    push_cast
    exact Int.mul_le_mul h1 h2 (by omega) ha
  omega
/-- one sign changed -/
theorem near_set {t u : Str} {i c x : Nat} (hu : u.cps.toList = t.cps.toList.set i c) (hx : t.cps.toList[i]? = some x) (hne : c ≠ x) (hc : Sg c) (hxs : Sg x) (hl : t.length ≤ 2000) (bt : Bal t) (bu : Bal u) : False := by
  obtain ⟨a1, a2, a3⟩ := bal_lin bt
  obtain ⟨b1, b2, b3⟩ := bal_lin bu
  have hi : i < t.cps.toList.length := (List.getElem?_eq_some_iff.mp hx).1
  rw [lenL] at hl
  rw [hu, lin_set 0 _ i x c hx, Nat.zero_add] at b1
  have hui : u.cps.toList[i]? = some c := by rw [hu, List.getElem?_set_self hi]
  have b1' : (lin 0 t.cps.toList + 5333328 + wt i * ((c : Int) - x)) % 999983 = 0 := by
    rw [← b1]
    congr 1
    omega
  unfold Sg at hc hxs
  rcases Nat.lt_or_ge i 6 with h6 | h6
  · obtain ⟨p, p1, p2, p3⟩ := a3 i h6
    obtain ⟨q, q1, q2, q3⟩ := b3 i h6
    rw [hx] at p1
    cases p1
    rw [hui] at q1
    cases q1
    have w := wt_low h6
    exact no_mult (by omega) (by omega) (abs_mul_lt (a := 100000) (b := 9) (by omega) (by omega) (by omega) (by omega)) b1' a1
  · rcases Nat.eq_or_lt_of_le h6 with h7 | h7
    · subst h7
      rw [hx] at a2
      rw [hui] at b2
      cases a2
      cases b2
      exact hne rfl
    · have w := wt_big h7 (by omega)
      exact no_mult (by omega) (by omega) (abs_mul_lt (a := 2000) (b := 94) (by omega) (by omega) (by omega) (by omega)) b1' a1
/-- two unlike signs exchanged -/
theorem near_swap {t u : Str} {i j x y : Nat} (hij : i < j) (hu : u.cps.toList = (t.cps.toList.set i y).set j x) (hx : t.cps.toList[i]? = some x) (hy : t.cps.toList[j]? = some y) (hne : x ≠ y) (hxs : Sg x) (hys : Sg y) (hl : t.length ≤ 2000) (bt : Bal t) (bu : Bal u) : False := by
  obtain ⟨a1, a2, a3⟩ := bal_lin bt
  obtain ⟨b1, b2, b3⟩ := bal_lin bu
  have hi : i < t.cps.toList.length := (List.getElem?_eq_some_iff.mp hx).1
  have hj : j < t.cps.toList.length := (List.getElem?_eq_some_iff.mp hy).1
  rw [lenL] at hl
  have hy2 : (t.cps.toList.set i y)[j]? = some y := by rw [List.getElem?_set_ne (by omega)]; exact hy
  rw [hu, lin_set 0 _ j y x hy2, lin_set 0 _ i x y hx, Nat.zero_add, Nat.zero_add] at b1
  have hui : u.cps.toList[i]? = some y := by rw [hu, List.getElem?_set_ne (by omega), List.getElem?_set_self hi]
  have huj : u.cps.toList[j]? = some x := by rw [hu, List.getElem?_set_self (by rw [List.length_set]; exact hj)]
  have hw : wt i * ((y : Int) - x) + wt j * ((x : Int) - y) = (wt i - wt j) * ((y : Int) - x) := by
    rw [Int.sub_mul, Int.mul_sub (wt j), Int.mul_sub (wt j)]
    omega
  have b1' : (lin 0 t.cps.toList + 5333328 + (wt i - wt j) * ((y : Int) - x)) % 999983 = 0 := by
    rw [← hw, ← b1]
    congr 1
    omega
  unfold Sg at hxs hys
  rcases Nat.lt_or_ge i 6 with h6 | h6
  · obtain ⟨p, p1, p2, p3⟩ := a3 i h6
    obtain ⟨q, q1, q2, q3⟩ := b3 i h6
    rw [hx] at p1
    cases p1
    rw [hui] at q1
    cases q1
    have w := wt_low h6
    rcases Nat.lt_or_ge j 6 with j6 | j6
    · have w2 := wt_low j6
      have w3 := wt_low_inj hij j6
      exact no_mult (by omega) (by omega) (abs_mul_lt (a := 100000) (b := 9) (by omega) (by omega) (by omega) (by omega)) b1' a1
    · rcases Nat.eq_or_lt_of_le j6 with h7 | h7
      · subst h7
        rw [hy] at a2
        rw [huj] at b2
        cases a2
        cases b2
        exact hne rfl
      · have w2 := wt_big h7 (by omega)
        exact no_mult (by omega) (by omega) (abs_mul_lt (a := 102000) (b := 9) (by omega) (by omega) (by omega) (by omega)) b1' a1
  · rcases Nat.eq_or_lt_of_le h6 with h7 | h7
    · subst h7
      rw [hx] at a2
      rw [hui] at b2
      cases a2
      cases b2
      exact hne rfl
    · have w := wt_big h7 (by omega)
      have w2 := wt_big (i := j) (by omega) (by omega)
      have w3 := wt_inj h7 hij
      exact no_mult (by omega) (by omega) (abs_mul_lt (a := 2000) (b := 94) (by omega) (by omega) (by omega) (by omega)) b1' a1
/-- a sign more at the end -/
theorem near_more {t u : Str} {c : Nat} (hu : u.cps.toList = t.cps.toList ++ [c]) (hc : Sg c) (hl : t.length ≤ 2000) (bt : Bal t) (bu : Bal u) : False := by
  obtain ⟨a1, a2, a3⟩ := bal_lin bt
  obtain ⟨b1, b2, b3⟩ := bal_lin bu
  have h6 : 6 < t.cps.toList.length := (List.getElem?_eq_some_iff.mp a2).1
  rw [lenL] at hl
  rw [hu, lin_append, Nat.zero_add] at b1
  have e : lin t.cps.toList.length [c] = wt t.cps.toList.length * (c : Int) := by
    show wt _ * (c : Int) + 0 = _
    omega
  have w := wt_big h6 hl
  unfold Sg at hc
  have b1' : (lin 0 t.cps.toList + 5333328 + wt t.cps.toList.length * (c : Int)) % 999983 = 0 := by
    rw [← b1, e]
    congr 1
    omega
  exact no_mult (by omega) (by omega) (abs_mul_lt (a := 2000) (b := 126) (by omega) (by omega) (by omega) (by omega)) b1' a1
/-- a blank ahead -/
theorem near_ahead {u : Str} {l : List Nat} (hu : u.cps.toList = 32 :: l) (bu : Bal u) : False := by
  obtain ⟨b1, b2, b3⟩ := bal_lin bu
  obtain ⟨c, c1, c2, c3⟩ := b3 0 (by omega)
  rw [hu] at c1
  simp at c1
  omega
end DL.K77
set_option Elab.async false
set_option linter.all false
set_option maxRecDepth 100000
set_option maxHeartbeats 1000000
namespace DL.K77
open PySem PySem.Spec PyProof.Rows L2
theorem set_eq {l : List Nat} {i c : Nat} (h : i < l.length) : l.set i c = l.take i ++ c :: l.drop (i + 1) := by
  rw [List.set_eq_take_append_cons_drop, if_pos h]
theorem swap_eq {l : List Nat} {i j x y : Nat} (hij : i < j) (h : j < l.length) : (l.set i y).set j x = l.take i ++ y :: ((l.drop (i + 1)).take (j - (i + 1)) ++ x :: l.drop (j + 1)) := by
  have hi : i < l.length := by omega
  have hl : (l.take i).length = i := by rw [List.length_take]; omega
  rw [set_eq hi, List.set_append_right _ _ (by omega), hl]
  obtain ⟨k, rfl⟩ : ∃ k, j = i + (k + 1) := ⟨j - i - 1, by omega⟩
  have e1 : i + (k + 1) - i = k + 1 := by omega
  have e2 : i + (k + 1) - (i + 1) = k := by omega
  rw [e1, e2, List.set_cons_succ, set_eq (by rw [List.length_drop]; omega), List.drop_drop]
  have e3 : i + 1 + (k + 1) = i + (k + 1) + 1 := by omega
  rw [e3]
/-- the texts of the law's own hand near a text -/
def nearS (t : Str) (p c : Nat) : Str := cutS t none (some (p : Int)) ++ ⟨#[c]⟩ ++ cutS t (some ((p : Int) + 1)) none
def swapS (t : Str) (i j x y : Nat) : Str := cutS t none (some (i : Int)) ++ ⟨#[y]⟩ ++ cutS t (some ((i : Int) + 1)) (some (j : Int)) ++ ⟨#[x]⟩ ++ cutS t (some ((j : Int) + 1)) none
theorem nearS_L {t : Str} {p c : Nat} (h : p < t.cps.toList.length) : (nearS t p c).cps.toList = t.cps.toList.set p c := by
  unfold nearS
  have z := cut_drop' t (p + 1)
  rw [show ((p + 1 : Nat) : Int) = (p : Int) + 1 by omega] at z
  rw [appL, appL, cut_take', z, set_eq h]
  simp
theorem swapS_L {t : Str} {i j x y : Nat} (hij : i < j) (h : j < t.cps.toList.length) : (swapS t i j x y).cps.toList = (t.cps.toList.set i y).set j x := by
  unfold swapS
  have z := cut_drop' t (j + 1)
  rw [show ((j + 1 : Nat) : Int) = (j : Int) + 1 by omega] at z
  have z2 : (cutS t (some ((i : Int) + 1)) (some (j : Int))).cps.toList = (t.cps.toList.drop (i + 1)).take (j - (i + 1)) := by
    rw [show (i : Int) + 1 = ((i + 1 : Nat) : Int) by omega, cutL, HT.sIx_nat, HT.sIx_nat, lenL, Nat.min_eq_left (by omega), Nat.min_eq_left (by omega)]
  rw [appL, appL, appL, appL, cut_take', z, z2, swap_eq hij h]
  simp
def Near (t : Str) (d : D) : Prop := ∃ u : Str, d = .str u ∧ u ≠ ("" : Str) ∧ ¬ Bal u ∧ u.length ≤ 3000
theorem gIx_s {t : Str} {p c : Nat} (h : t.cps.toList[p]? = some c) (hl : t.length ≤ 16777216) : gIx (.str t) (.int (p : Int)) = some (sign1 c) := by
  unfold gIx
  dsimp only
  rw [if_pos (by rw [sizeLine_eq]; exact hl)]
  have z : atI t.cps.toList (p : Int) = some c := atI_nat h
  exact congrArg (Option.map sign1) z
theorem gAdd_s {x y : Str} (h : x.length + y.length ≤ 16777216) : gAdd (.str x) (.str y) = some (.str (x ++ y)) := by
  unfold gAdd
  dsimp only
  rw [if_pos (by rw [sizeLine_eq]; exact h)]
theorem one_len (c : Nat) : (⟨#[c]⟩ : Str).length = 1 := rfl
theorem ne_empty {u : Str} {n : Nat} (h : u.cps.toList.length = n + 1) : u ≠ ("" : Str) := fun z => by
  have e0 : ("" : Str).cps.toList.length = 0 := by decide
  rw [z, e0] at h
  omega
theorem near1 {t : Str} {p c x : Nat} (hx : t.cps.toList[p]? = some x) (hne : c ≠ x) (hc : Sg c) (hs : ∀ c ∈ t.cps.toList, Sg c) (hl : t.length ≤ 2000) (bt : Bal t) : Near t (.str (nearS t p c)) := by
  have hp : p < t.cps.toList.length := (List.getElem?_eq_some_iff.mp hx).1
  have hL := nearS_L (c := c) hp
  have hlen : (nearS t p c).cps.toList.length = t.cps.toList.length := by rw [hL, List.length_set]
  refine ⟨_, rfl, ?_, fun bu => near_set hL hx hne hc (hs x (List.mem_of_getElem? hx)) hl bt bu, by rw [lenL, hlen, ← lenL]; omega⟩
  exact ne_empty (n := t.cps.toList.length - 1) (by rw [hlen]; omega)
theorem near2 {t : Str} {i j x y : Nat} (hij : i < j) (hx : t.cps.toList[i]? = some x) (hy : t.cps.toList[j]? = some y) (hne : x ≠ y) (hs : ∀ c ∈ t.cps.toList, Sg c) (hl : t.length ≤ 2000) (bt : Bal t) : Near t (.str (swapS t i j x y)) := by
  have hp : j < t.cps.toList.length := (List.getElem?_eq_some_iff.mp hy).1
  have hL := swapS_L (x := x) (y := y) hij hp
  have hlen : (swapS t i j x y).cps.toList.length = t.cps.toList.length := by rw [hL, List.length_set, List.length_set]
  refine ⟨_, rfl, ?_, fun bu => near_swap hij hL hx hy hne (hs x (List.mem_of_getElem? hx)) (hs y (List.mem_of_getElem? hy)) hl bt bu, by rw [lenL, hlen, ← lenL]; omega⟩
  exact ne_empty (n := t.cps.toList.length - 1) (by rw [hlen]; omega)
end DL.K77
set_option Elab.async false
set_option linter.all false
set_option maxRecDepth 100000
set_option maxHeartbeats 1000000
namespace DL.K77
open PySem PySem.Spec PyProof.Rows L2
theorem fAppend_ok {i : Nat} {fa : Env → R M} {env e1 : Env} {ms0 ms : List M} {m : M} (h0 : slot env i = some (.lst ms0)) (h1 : fa env = .ok m e1) (h2 : slot e1 i = some (.lst ms)) (hl : ms.length < 16777216) :
    fAppend i fa env = .ok .none (e1.set i (some (.lst (ms ++ [m])))) := by
  unfold fAppend
  rw [h0]
  dsimp only
  rw [h1]
  show (match slot e1 i with | some (.lst ms) => if ms.length < sizeLine then R.ok PyData.none (e1.set i (some (.lst (ms ++ [m])))) else .stuck | _ => .stuck) = _
  rw [h2]
  dsimp only
  rw [if_pos (by rw [sizeLine_eq]; exact hl)]
theorem fDrop_ok {f : Env → R D} {env e : Env} {d : D} (h : f env = .ok d e) : fDrop f env = .ok .nx e := by
  unfold fDrop
  rw [h]
  rfl
theorem fSl_ok {fa : Env → R D} {fl fh : Env → R (Option Int)} {env e1 e2 e3 : Env} {t : Str} {lo hi : Option Int} (h1 : fa env = .ok (.str t) e1) (h2 : fl e1 = .ok lo e2) (h3 : fh e2 = .ok hi e3) (hl : t.length ≤ 16777216) : fSl fa fl fh env = .ok (.str (cutS t lo hi)) e3 := by
  unfold fSl
  rw [h1]
  show (fl e1).bind _ = _
  rw [h2]
  show (fh e2).bind _ = _
  rw [h3]
  show R.of (gSl (.str t) lo hi) e3 = _
  rw [gSl_s hl]
  rfl
theorem fPart_ok {fa : Env → R D} {env e : Env} {i : Int} (h : fa env = .ok (.int i) e) : fPart fa env = .ok (some i) e := by
  unfold fPart
  rw [h]
  rfl
theorem fNoPart_ok {env : Env} : fNoPart env = .ok none env := rfl
theorem ne_sign (c x : Nat) : gNe (sign1 c) (sign1 x) = some (.bool (!decide (c = x))) := by
  show some (PyData.bool (!decide ((⟨#[c]⟩ : Str) = ⟨#[x]⟩))) = _
  congr 2
  by_cases h : c = x
  · subst h; simp
  · rw [decide_eq_false h, decide_eq_false]
    intro z
    have := congrArg (fun s : Str => s.cps.toList) z
    simp at this
    exact h this
def nA : Env → R Fl := fIf (fB (f2 gNe (fVar 5) (f2 gIx (fVar 1) (fVar 4)))) (fDrop (fAppend 2 (fUp (f2 gAdd (f2 gAdd (fSl (fVar 1) fNoPart (fPart (fVar 4))) (fVar 5)) (fSl (fVar 1) (fPart (f2 gAdd (fVar 4) (fC (.int 1)))) fNoPart))))) fNx
def nB : Env → R Fl := fIf (fB (f2 gNe (f2 gIx (fVar 1) (fVar 7)) (f2 gIx (fVar 1) (fVar 8)))) (fDrop (fAppend 2 (fUp (f2 gAdd (f2 gAdd (f2 gAdd (f2 gAdd (fSl (fVar 1) fNoPart (fPart (fVar 7))) (f2 gIx (fVar 1) (fVar 8))) (fSl (fVar 1) (fPart (f2 gAdd (fVar 7) (fC (.int 1)))) (fPart (fVar 8)))) (f2 gIx (fVar 1) (fVar 7))) (fSl (fVar 1) (fPart (f2 gAdd (fVar 8) (fC (.int 1)))) fNoPart))))) fNx
theorem nA_ok {t S : Str} {m : M} {acc : List D} {p c x q : Nat} {s7 s8 : Option M} (hx : t.cps.toList[p]? = some x) (hc : Sg c) (hs : ∀ c ∈ t.cps.toList, Sg c) (hl : t.length ≤ 2000) (bt : Bal t) (ha : acc.length ≤ 100000) :
    ∃ acc' : List D, nA [some m, some (.d (.str t)), some (.lst (acc.map .d)), some (.d (.str S)), some (.d (.int (p : Nat))), some (.d (sign1 c)), some (.d (.int (q : Nat))), s7, s8] =
      .ok .nx [some m, some (.d (.str t)), some (.lst (acc'.map .d)), some (.d (.str S)), some (.d (.int (p : Nat))), some (.d (sign1 c)), some (.d (.int (q : Nat))), s7, s8] ∧ acc'.length ≤ acc.length + 1 ∧ ((∀ d ∈ acc, Near t d) → ∀ d ∈ acc', Near t d) := by
  let e : Env := [some m, some (.d (.str t)), some (.lst (acc.map .d)), some (.d (.str S)), some (.d (.int (p : Nat))), some (.d (sign1 c)), some (.d (.int (q : Nat))), s7, s8]
  have t1 : fB (f2 gNe (fVar 5) (f2 gIx (fVar 1) (fVar 4))) e = .ok (!decide (c = x)) e :=
    fB_ok (f2_ok (e1 := e) (a := sign1 c) (b := sign1 x) rfl (f2_ok (e1 := e) (a := .str t) (b := .int (p : Nat)) rfl rfl (gIx_s hx (by omega))) (ne_sign c x))
  by_cases h : c = x
  · rw [decide_eq_true h] at t1
    exact ⟨acc, (fIf_f t1).trans rfl, by omega, fun z => z⟩
  · rw [decide_eq_false h] at t1
    have c0 := cut_len t none (some (p : Int))
    have c1 := cut_len t (some ((p : Int) + 1)) none
    have k1 : fSl (fVar 1) fNoPart (fPart (fVar 4)) e = .ok (.str (cutS t none (some (p : Int)))) e := fSl_ok (e1 := e) rfl fNoPart_ok (fPart_ok (e := e) rfl) (by omega)
    have k2 : fSl (fVar 1) (fPart (f2 gAdd (fVar 4) (fC (.int 1)))) fNoPart e = .ok (.str (cutS t (some ((p : Int) + 1)) none)) e := fSl_ok (e1 := e) rfl (fPart_ok (e := e) rfl) fNoPart_ok (by omega)
    have a1 : f2 gAdd (f2 gAdd (fSl (fVar 1) fNoPart (fPart (fVar 4))) (fVar 5)) (fSl (fVar 1) (fPart (f2 gAdd (fVar 4) (fC (.int 1)))) fNoPart) e = .ok (.str (nearS t p c)) e :=
      f2_ok (f2_ok (b := .str ⟨#[c]⟩) k1 rfl (gAdd_s (by rw [one_len]; omega))) k2 (gAdd_s (by rw [appLen, one_len]; omega))
    have ap := fAppend_ok (i := 2) (env := e) (ms0 := acc.map .d) (fUp_ok a1) (h0 := rfl) (h2 := rfl) (ms := acc.map .d) (by rw [List.length_map]; omega)
    refine ⟨acc ++ [PyData.str (nearS t p c)], ?_, by simp, fun z d hd => ?_⟩
    · refine (fIf_t t1).trans ((fDrop_ok ap).trans ?_)
      rw [List.map_append]
      rfl
    · rcases List.mem_append.mp hd with hd | hd
      · exact z d hd
      · rw [List.mem_singleton.mp hd]
        exact near1 hx h hc hs hl bt
theorem nB_ok {t S : Str} {m : M} {acc : List D} {i j x y : Nat} {s4 s5 s6 : Option M} (hij : i ≤ j) (hx : t.cps.toList[i]? = some x) (hy : t.cps.toList[j]? = some y) (hs : ∀ c ∈ t.cps.toList, Sg c) (hl : t.length ≤ 2000) (bt : Bal t) (ha : acc.length ≤ 100000) :
    ∃ acc' : List D, nB [some m, some (.d (.str t)), some (.lst (acc.map .d)), some (.d (.str S)), s4, s5, s6, some (.d (.int (i : Nat))), some (.d (.int (j : Nat)))] =
      .ok .nx [some m, some (.d (.str t)), some (.lst (acc'.map .d)), some (.d (.str S)), s4, s5, s6, some (.d (.int (i : Nat))), some (.d (.int (j : Nat)))] ∧ acc'.length ≤ acc.length + 1 ∧ ((∀ d ∈ acc, Near t d) → ∀ d ∈ acc', Near t d) := by
  let e : Env := [some m, some (.d (.str t)), some (.lst (acc.map .d)), some (.d (.str S)), s4, s5, s6, some (.d (.int (i : Nat))), some (.d (.int (j : Nat)))]
  have x1 : f2 gIx (fVar 1) (fVar 7) e = .ok (sign1 x) e := f2_ok (e1 := e) (a := .str t) (b := .int (i : Nat)) rfl rfl (gIx_s hx (by omega))
  have y1 : f2 gIx (fVar 1) (fVar 8) e = .ok (sign1 y) e := f2_ok (e1 := e) (a := .str t) (b := .int (j : Nat)) rfl rfl (gIx_s hy (by omega))
  have t1 : fB (f2 gNe (f2 gIx (fVar 1) (fVar 7)) (f2 gIx (fVar 1) (fVar 8))) e = .ok (!decide (x = y)) e := fB_ok (f2_ok x1 y1 (ne_sign x y))
  by_cases h : x = y
  · rw [decide_eq_true h] at t1
    exact ⟨acc, (fIf_f t1).trans rfl, by omega, fun z => z⟩
  · rw [decide_eq_false h] at t1
    have hlt : i < j := by
      rcases Nat.eq_or_lt_of_le hij with z | z
      · subst z
        rw [hx] at hy
        cases hy
        exact absurd rfl h
      · exact z
    have c0 := cut_len t none (some (i : Int))
    have c1 := cut_len t (some ((i : Int) + 1)) (some (j : Int))
    have c2 := cut_len t (some ((j : Int) + 1)) none
    have k1 : fSl (fVar 1) fNoPart (fPart (fVar 7)) e = .ok (.str (cutS t none (some (i : Int)))) e := fSl_ok (e1 := e) rfl fNoPart_ok (fPart_ok (e := e) rfl) (by omega)
    have k2 : fSl (fVar 1) (fPart (f2 gAdd (fVar 7) (fC (.int 1)))) (fPart (fVar 8)) e = .ok (.str (cutS t (some ((i : Int) + 1)) (some (j : Int)))) e := fSl_ok (e1 := e) rfl (fPart_ok (e := e) rfl) (fPart_ok (e := e) rfl) (by omega)
    have k3 : fSl (fVar 1) (fPart (f2 gAdd (fVar 8) (fC (.int 1)))) fNoPart e = .ok (.str (cutS t (some ((j : Int) + 1)) none)) e := fSl_ok (e1 := e) rfl (fPart_ok (e := e) rfl) fNoPart_ok (by omega)
    have a1 : f2 gAdd (f2 gAdd (f2 gAdd (f2 gAdd (fSl (fVar 1) fNoPart (fPart (fVar 7))) (f2 gIx (fVar 1) (fVar 8))) (fSl (fVar 1) (fPart (f2 gAdd (fVar 7) (fC (.int 1)))) (fPart (fVar 8)))) (f2 gIx (fVar 1) (fVar 7))) (fSl (fVar 1) (fPart (f2 gAdd (fVar 8) (fC (.int 1)))) fNoPart) e = .ok (.str (swapS t i j x y)) e :=
      f2_ok (f2_ok (f2_ok (f2_ok k1 y1 (gAdd_s (by rw [one_len]; omega))) k2 (gAdd_s (by rw [appLen, one_len]; omega))) x1 (gAdd_s (by rw [appLen, appLen, one_len, one_len]; omega))) k3 (gAdd_s (by rw [appLen, appLen, appLen, one_len, one_len]; omega))
    have ap := fAppend_ok (i := 2) (env := e) (ms0 := acc.map .d) (fUp_ok a1) (h0 := rfl) (h2 := rfl) (ms := acc.map .d) (by rw [List.length_map]; omega)
    refine ⟨acc ++ [PyData.str (swapS t i j x y)], ?_, by simp, fun z d hd => ?_⟩
    · refine (fIf_t t1).trans ((fDrop_ok ap).trans ?_)
      rw [List.map_append]
      rfl
    · rcases List.mem_append.mp hd with hd | hd
      · exact z d hd
      · rw [List.mem_singleton.mp hd]
        exact near2 hlt hx hy h hs hl bt
end DL.K77
set_option Elab.async false
set_option linter.all false
set_option maxRecDepth 100000
set_option maxHeartbeats 1000000
namespace DL.K77
open PySem PySem.Spec PyProof.Rows L2
theorem fArgs_ok {g : List Arg → Option D} {fr : Env → R (List Arg)} {env e : Env} {as : List Arg} {z : D} (h : fr env = .ok as e) (hz : g as = some z) : fArgs g fr env = .ok z e := by
  unfold fArgs
  rw [h]
  show R.of (g as) e = _
  rw [hz]
  rfl
theorem gLen_s {t : Str} (h : t.length ≤ 16777216) : gLen (.str t) = some (.int (t.length : Nat)) := by
  unfold gLen
  dsimp only
  rw [if_pos (by rw [sizeLine_eq]; exact h)]
def nBody : Env → R Fl := (fSeq (fPar 5 6 (fConsA (f2 gIx (fVar 3) (fFrz (fCall b__law_draw F__law_draw (fSlotA 0 (fConsA (f1 gLen (fVar 3)) fNilA))))) (fConsA (fFrz (fCall b__law_draw F__law_draw (fSlotA 0 (fConsA (f1 gLen (fVar 1)) fNilA)))) fNilA))) (fSeq nA (fSeq (fPar 7 8 (fConsA (fArgs (g2I fun i j => if j < i then j else i) (fConsA (fVar 4) (fConsA (fVar 6) fNilA))) (fConsA (fArgs (g2I fun i j => if j > i then j else i) (fConsA (fVar 4) (fConsA (fVar 6) fNilA))) fNilA))) nB)))
theorem near_turn {t S : Str} {m : M} {b : Nat} {acc : List D} {p : Nat} {q4 q5 q6 q7 q8 : Option M} (hF : Fit b m) (hb : b < 900000000000) (hS : S.length = 94) (hSg : ∀ c ∈ S.cps.toList, Sg c) (hp : p < t.length) (hs : ∀ c ∈ t.cps.toList, Sg c) (hl : t.length ≤ 2000) (bt : Bal t) (ha : acc.length ≤ 90000) :
    ∃ (m' : M) (acc' : List D) (r4 r5 r6 r7 r8 : Option M), forTurn (gN 4) nBody (.int (p : Nat)) [some m, some (.d (.str t)), some (.lst (acc.map .d)), some (.d (.str S)), q4, q5, q6, q7, q8] =
      .ok .nx [some m', some (.d (.str t)), some (.lst (acc'.map .d)), some (.d (.str S)), r4, r5, r6, r7, r8] ∧ Fit (b + 2) m' ∧ acc'.length ≤ acc.length + 2 ∧ ((∀ d ∈ acc, Near t d) → ∀ d ∈ acc', Near t d) := by
  obtain ⟨r1, m1, d1, u1, u2, F1⟩ := e_draw hF (by omega) (S.length : Nat) (by omega) (by omega)
  obtain ⟨j, rfl⟩ := Int.eq_ofNat_of_zero_le u1
  obtain ⟨r2, m2, d2, v1, v2, F2⟩ := e_draw F1 (by omega) (t.length : Nat) (by omega) (by omega)
  obtain ⟨q, rfl⟩ := Int.eq_ofNat_of_zero_le v1
  have hj : j < S.cps.toList.length := by rw [← lenL]; omega
  have hq : q < t.cps.toList.length := by rw [← lenL]; omega
  have hp' : p < t.cps.toList.length := by rw [← lenL]; exact hp
  let e1 : Env := [some m, some (.d (.str t)), some (.lst (acc.map .d)), some (.d (.str S)), some (.d (.int (p : Nat))), q5, q6, q7, q8]
  let e2 : Env := [some m1, some (.d (.str t)), some (.lst (acc.map .d)), some (.d (.str S)), some (.d (.int (p : Nat))), q5, q6, q7, q8]
  let e3 : Env := [some m2, some (.d (.str t)), some (.lst (acc.map .d)), some (.d (.str S)), some (.d (.int (p : Nat))), q5, q6, q7, q8]
  have l1 : f1 gLen (fVar 3) e1 = .ok (.int (S.length : Nat)) e1 := f1_ok (e := e1) (d := .str S) rfl (gLen_s (by omega))
  have l2 : f1 gLen (fVar 1) e2 = .ok (.int (t.length : Nat)) e2 := f1_ok (e := e2) (d := .str t) rfl (gLen_s (by omega))
  have a1 : fSlotA 0 (fConsA (f1 gLen (fVar 3)) fNilA) e1 = .ok [.s 0, .d (.int (S.length : Nat))] e1 := by
    show (fConsA (f1 gLen (fVar 3)) fNilA e1).bind _ = _
    rw [fConsA_ok l1 fNilA_ok]
    rfl
  have a2 : fSlotA 0 (fConsA (f1 gLen (fVar 1)) fNilA) e2 = .ok [.s 0, .d (.int (t.length : Nat))] e2 := by
    show (fConsA (f1 gLen (fVar 1)) fNilA e2).bind _ = _
    rw [fConsA_ok l2 fNilA_ok]
    rfl
  have c1 : fFrz (fCall b__law_draw F__law_draw (fSlotA 0 (fConsA (f1 gLen (fVar 3)) fNilA))) e1 = .ok (.int (j : Nat)) e2 := fFrz_ok (call_ok a1 (by simp [slotsOf]) rfl rfl d1)
  have c2 : fFrz (fCall b__law_draw F__law_draw (fSlotA 0 (fConsA (f1 gLen (fVar 1)) fNilA))) e2 = .ok (.int (q : Nat)) e3 := fFrz_ok (call_ok a2 (by simp [slotsOf]) rfl rfl d2)
  have x1 : f2 gIx (fVar 3) (fFrz (fCall b__law_draw F__law_draw (fSlotA 0 (fConsA (f1 gLen (fVar 3)) fNilA)))) e1 = .ok (sign1 S.cps.toList[j]) e2 :=
    f2_ok (e1 := e1) (a := .str S) rfl c1 (gIx_s (List.getElem?_eq_getElem hj) (by omega))
  have s1 := fPar_ok (i := 5) (j := 6) (fConsA_ok x1 (fConsA_ok c2 fNilA_ok))
  obtain ⟨acc1, n1, n2, n3⟩ := nA_ok (S := S) (m := m2) (acc := acc) (q := q) (s7 := q7) (s8 := q8) (List.getElem?_eq_getElem hp') (hSg _ (List.getElem_mem hj)) hs hl bt (by omega)
  let e5 : Env := [some m2, some (.d (.str t)), some (.lst (acc1.map .d)), some (.d (.str S)), some (.d (.int (p : Nat))), some (.d (sign1 S.cps.toList[j])), some (.d (.int (q : Nat))), q7, q8]
  have k0 : fConsA (fVar 4) (fConsA (fVar 6) fNilA) e5 = .ok [.d (.int (p : Nat)), .d (.int (q : Nat))] e5 := fConsA_ok (e1 := e5) rfl (fConsA_ok (e1 := e5) rfl fNilA_ok)
  have k1 : fArgs (g2I fun i j => if j < i then j else i) (fConsA (fVar 4) (fConsA (fVar 6) fNilA)) e5 = .ok (.int ((min p q : Nat) : Int)) e5 := by
    refine fArgs_ok k0 ?_
    show some (PyData.int (if (q : Int) < (p : Int) then (q : Int) else p)) = _
    congr 2
    split <;> omega
  have k2 : fArgs (g2I fun i j => if j > i then j else i) (fConsA (fVar 4) (fConsA (fVar 6) fNilA)) e5 = .ok (.int ((max p q : Nat) : Int)) e5 := by
    refine fArgs_ok k0 ?_
    show some (PyData.int (if (q : Int) > (p : Int) then (q : Int) else p)) = _
    congr 2
    split <;> omega
  have s3 := fPar_ok (i := 7) (j := 8) (fConsA_ok k1 (fConsA_ok k2 fNilA_ok))
  have hlo : min p q < t.cps.toList.length := by omega
  have hhi : max p q < t.cps.toList.length := by omega
  obtain ⟨acc2, o1, o2, o3⟩ := nB_ok (S := S) (m := m2) (acc := acc1) (s4 := some (.d (.int (p : Nat)))) (s5 := some (.d (sign1 S.cps.toList[j]))) (s6 := some (.d (.int (q : Nat)))) (i := min p q) (j := max p q) (by omega) (List.getElem?_eq_getElem hlo) (List.getElem?_eq_getElem hhi) hs hl bt (by omega)
  refine ⟨m2, acc2, some (.d (.int (p : Nat))), some (.d (sign1 S.cps.toList[j])), some (.d (.int (q : Nat))), some (.d (.int ((min p q : Nat) : Int))), some (.d (.int ((max p q : Nat) : Int))), ?_, F2, by omega, fun z => o3 (n3 z)⟩
  have gn : gN 4 (.int (p : Nat)) [some m, some (.d (.str t)), some (.lst (acc.map .d)), some (.d (.str S)), q4, q5, q6, q7, q8] = some e1 := rfl
  unfold forTurn
  rw [gn]
  dsimp only
  unfold nBody
  exact (fSeq_ok s1).trans ((fSeq_ok n1).trans ((fSeq_ok s3).trans o1))
end DL.K77
set_option Elab.async false
set_option linter.all false
set_option maxRecDepth 100000
set_option maxHeartbeats 1000000
namespace DL.K77
open PySem PySem.Spec PyProof.Rows L2
theorem size_le {n c : Nat} (hn : n ≤ 2000) (hc : 1 ≤ c) : 0 ≤ Builtin.Range.rangeSize 0 (n : Int) (c : Int) ∧ Builtin.Range.rangeSize 0 (n : Int) (c : Int) ≤ 2000 := by
  unfold Builtin.Range.rangeSize
  rw [if_pos (by omega)]
  split
  · have h1 : (0 : Int) ≤ ((n : Int) - 0 - 1) / c := Int.ediv_nonneg (by omega) (by omega)
    have h2 : ((n : Int) - 0 - 1) / c ≤ (n : Int) - 0 - 1 := Int.ediv_le_self _ (by omega)
    omega
  · omega
theorem fits_ok {i : Int} (h1 : -100000 ≤ i) (h2 : i ≤ 100000) : Builtin.Range.rangeFitsLong i = true := by
  unfold Builtin.Range.rangeFitsLong
  rw [Bool.and_eq_true, decide_eq_true_eq, decide_eq_true_eq]
  omega
theorem small_step {n c : Nat} (hn : n ≤ 2000) (hc : 1 ≤ c) (hc2 : c ≤ 100) : Builtin.Range.small 0 (n : Int) (c : Int) = true := by
  obtain ⟨h1, h2⟩ := size_le hn hc
  unfold Builtin.Range.small
  rw [fits_ok (i := 0) (by omega) (by omega), fits_ok (i := (n : Int)) (by omega) (by omega), fits_ok (i := (c : Int)) (by omega) (by omega), fits_ok (i := Builtin.Range.rangeSize 0 (n : Int) (c : Int)) (by omega) (by omega),
    if_pos (show (c : Int) > 0 by omega), fits_ok (i := (n : Int) + ((c : Int) - 1)) (by omega) (by omega)]
  simp
theorem rng3_step {n c : Nat} (hn : n ≤ 2000) (hc : 1 ≤ c) (hc2 : c ≤ 100) : ∃ k : Nat, k ≤ 2000 ∧ rng3 [.d (.int 0), .d (.int (n : Nat)), .d (.int (c : Nat))] = some ((List.range k).map fun i => PyData.int ((i * c : Nat) : Int)) ∧ ∀ i < k, i * c < n := by
  obtain ⟨h1, h2⟩ := size_le hn hc
  obtain ⟨k, hk⟩ := Int.eq_ofNat_of_zero_le h1
  refine ⟨k, by omega, ?_, fun i hi => ?_⟩
  · unfold rng3
    dsimp only
    rw [if_pos ⟨by omega, log2_of_lt (by decide) (by omega), small_step hn hc hc2⟩, hk]
    unfold rngC
    simp
  · have z := (start_inside (len := n) (c := c) (v := (i : Int)) (by omega) (by omega) (by omega) (by rw [hk]; omega)).2
    have : ((i * c : Nat) : Int) = (i : Int) * c := by push_cast; rfl
    omega
theorem fParMV_ok {i j : Nat} {fa : Env → R M} {fb : Env → R D} {env e1 e2 : Env} {m : M} {d : D} (h1 : fa env = .ok m e1) (h2 : fb e1 = .ok d e2) : fParMV i j fa fb env = .ok .nx ((e2.set i (some m)).set j (some (.d d))) := by
  unfold fParMV
  rw [h1]
  simp only [R.bind_ok]
  rw [h2]
  rfl
theorem cut_last {t u : Str} (hu : u = cutS t none (some (-1))) (h : 0 < t.cps.toList.length) : ∃ c ∈ t.cps.toList, t.cps.toList = u.cps.toList ++ [c] := by
  have e : u.cps.toList = t.cps.toList.dropLast := by
    rw [hu, cutL, HT.sIx_none, lenL]
    have : HT.sIx t.cps.toList.length t.cps.toList.length (some (-1)) = t.cps.toList.length - 1 := by
      show (if (-1 : Int) < 0 then ((-1 : Int) + (t.cps.toList.length : Int)).toNat else min (-1 : Int).toNat t.cps.toList.length) = _
      rw [if_pos (by decide)]
      omega
    rw [this, List.drop_zero, Nat.sub_zero, List.dropLast_eq_take]
  have hne : t.cps.toList ≠ [] := List.length_pos_iff.mp h
  refine ⟨t.cps.toList.getLast hne, List.getLast_mem hne, ?_⟩
  rw [e, List.dropLast_concat_getLast]
theorem e_near {t : Str} {m : M} {b : Nat} (hF : Fit b m) (hb : b < 800000000000) (hs : ∀ c ∈ t.cps.toList, Sg c) (hl : t.length ≤ 1900) (bt : Bal t) :
    ∃ (m' : M) (ds : List D), F__law_k77_near [m, .d (.str t)] = .ok (.d (.list ds)) [m'] ∧ Fit (b + 4000) m' ∧ ds.length ≤ 5000 ∧ ∀ d ∈ ds, Near t d := by
  obtain ⟨S, e_S, S_len, S_ok⟩ := the_signs
  obtain ⟨k, k1, k2, k3⟩ := rng3_step (n := t.length) (c := 1 + t.length / 80) (by omega) (by omega) (by omega)
  let e0 : Env := [some m, some (.d (.str t)), none, none, none, none, none, none, none]
  let e1 : Env := [some m, some (.d (.str t)), some (.lst []), some (.d (.str S)), none, none, none, none, none]
  have s0 : fParMV 2 3 (fLstM fNilA) (fFrz (fCall0 b__law_dk_signs F__law_dk_signs)) e0 = .ok .nx e1 := by
    have c0 := fFrz_ok (call0_ok (env := e0) e_S)
    have l0 : fLstM fNilA e0 = .ok (.lst []) e0 := by
      show R.of (if ([] : List D).length ≤ sizeLine then some (M.lst (([] : List D).map .d)) else none) e0 = _
      rw [if_pos (show ([] : List D).length ≤ sizeLine from Nat.zero_le _)]
      rfl
    exact fParMV_ok l0 c0
  obtain ⟨e', f1', m', acc, r4, r5, r6, r7, r8, rfl, f2', f3', f4'⟩ := forL_rel (g := gN 4) (body := nBody)
    (fun r e => ∃ (m2 : M) (acc : List D) (q4 q5 q6 q7 q8 : Option M), e = [some m2, some (.d (.str t)), some (.lst (acc.map .d)), some (.d (.str S)), q4, q5, q6, q7, q8] ∧ (∃ j, j + r.length = k ∧ Fit (b + 2 * j) m2 ∧ acc.length ≤ 2 * j) ∧ (∀ d ∈ acc, Near t d) ∧ ∀ d ∈ r, ∃ i < k, d = .int ((i * (1 + t.length / 80) : Nat) : Int))
    (fun d r e => by
      rintro ⟨m2, acc, q4, q5, q6, q7, q8, rfl, ⟨j, h1, h2, h3⟩, h4, h5⟩
      rw [List.length_cons] at h1
      obtain ⟨i, hi, rfl⟩ := h5 d List.mem_cons_self
      obtain ⟨m3, acc3, r4, r5, r6, r7, r8, g1, g2, g3, g4⟩ := near_turn (q4 := q4) (q5 := q5) (q6 := q6) (q7 := q7) (q8 := q8) h2 (by omega) S_len S_ok (k3 i hi) hs (by omega) bt (acc := acc) (by omega)
      exact ⟨_, g1, m3, acc3, r4, r5, r6, r7, r8, rfl, ⟨j + 1, by omega, g2.mono (by omega), by omega⟩, g4 h4, fun d hd => h5 d (List.mem_cons_of_mem _ hd)⟩)
    ((List.range k).map fun i => PyData.int ((i * (1 + t.length / 80) : Nat) : Int)) e1
    ⟨m, [], none, none, none, none, none, rfl, ⟨0, by simp, by simpa using hF, by simp⟩, by simp, fun d hd => by
      obtain ⟨i, hi, rfl⟩ := List.mem_map.mp hd
      exact ⟨i, List.mem_range.mp hi, rfl⟩⟩
  obtain ⟨j, j1, j2, j3⟩ := f2'
  rw [List.length_nil, Nat.add_zero] at j1
  obtain ⟨z1, z2, z3⟩ := bal_lin bt
  have h6 : 6 < t.cps.toList.length := (List.getElem?_eq_some_iff.mp z2).1
  have hlen := lenL t
  let e2 : Env := [some m', some (.d (.str t)), some (.d (.list acc)), some (.d (.str S)), r4, r5, r6, r7, r8]
  have st : still [some m', some (.d (.str t)), some (.lst (acc.map .d)), some (.d (.str S)), r4, r5, r6, r7, r8] 2 = e2 := by
    show [some m', some (.d (.str t)), some (.d (frz (.lst (acc.map .d)))), some (.d (.str S)), r4, r5, r6, r7, r8] = _
    rw [frz_mds]
  have cl := cut_len t none (some (-1))
  have a1 : fSl (fVar 1) fNoPart (fPart (f1 gNeg (fC (.int 1)))) e2 = .ok (.str (cutS t none (some (-1)))) e2 := fSl_ok (e1 := e2) rfl fNoPart_ok (fPart_ok (e := e2) rfl) (by omega)
  have xl : ("x" : Str).length = 1 := by decide
  have a2 : f2 gAdd (fVar 1) (fC (.str ("x" : Str))) e2 = .ok (.str (t ++ "x")) e2 := f2_ok (e1 := e2) (a := .str t) (b := .str ("x" : Str)) rfl rfl (gAdd_s (by omega))
  have a3 : f2 gAdd (fC (.str (" " : Str))) (fVar 1) e2 = .ok (.str (" " ++ t)) e2 := f2_ok (e1 := e2) (a := .str (" " : Str)) (b := .str t) rfl rfl (gAdd_s (by rw [blank_len]; omega))
  have a4 : fLst (fConsA (fSl (fVar 1) fNoPart (fPart (f1 gNeg (fC (.int 1))))) (fConsA (f2 gAdd (fVar 1) (fC (.str ("x" : Str)))) (fConsA (f2 gAdd (fC (.str (" " : Str))) (fVar 1)) fNilA))) e2 = .ok (.list [.str (cutS t none (some (-1))), .str (t ++ "x"), .str (" " ++ t)]) e2 :=
    fLst_ok (fConsA_ok a1 (fConsA_ok a2 (fConsA_ok a3 fNilA_ok))) rfl (by simp)
  have a5 : f2 gAdd (fVar 2) (fLst (fConsA (fSl (fVar 1) fNoPart (fPart (f1 gNeg (fC (.int 1))))) (fConsA (f2 gAdd (fVar 1) (fC (.str ("x" : Str)))) (fConsA (f2 gAdd (fC (.str (" " : Str))) (fVar 1)) fNilA)))) e2 = .ok (.list (acc ++ [.str (cutS t none (some (-1))), .str (t ++ "x"), .str (" " ++ t)])) e2 := by
    refine f2_ok (e1 := e2) (a := .list acc) rfl a4 ?_
    unfold gAdd
    dsimp only
    rw [if_pos (by rw [sizeLine_eq, List.length_cons, List.length_cons, List.length_cons, List.length_nil]; omega)]
  have fin : fStill 2 (fRet (fUp (f2 gAdd (fVar 2) (fLst (fConsA (fSl (fVar 1) fNoPart (fPart (f1 gNeg (fC (.int 1))))) (fConsA (f2 gAdd (fVar 1) (fC (.str ("x" : Str)))) (fConsA (f2 gAdd (fC (.str (" " : Str))) (fVar 1)) fNilA))))))) [some m', some (.d (.str t)), some (.lst (acc.map .d)), some (.d (.str S)), r4, r5, r6, r7, r8] =
      .ok (.rt (.d (.list (acc ++ [.str (cutS t none (some (-1))), .str (t ++ "x"), .str (" " ++ t)])))) e2 := by
    unfold fStill
    rw [st]
    exact fRet_ok (fUp_ok a5)
  have ri : fItA rng3 (fConsA (fC (.int 0)) (fConsA (f1 gLen (fVar 1)) (fConsA (f2 gAdd (fC (.int 1)) (f2 gDiv (f1 gLen (fVar 1)) (fC (.int 80)))) fNilA))) e1 = .ok ((List.range k).map fun i => PyData.int ((i * (1 + t.length / 80) : Nat) : Int)) e1 := by
    have l1 : f1 gLen (fVar 1) e1 = .ok (.int (t.length : Nat)) e1 := f1_ok (e := e1) (d := .str t) rfl (gLen_s (by omega))
    have d1 : f2 gDiv (f1 gLen (fVar 1)) (fC (.int 80)) e1 = .ok (.int ((t.length : Int) / 80)) e1 := f2_ok (e1 := e1) l1 rfl rfl
    have d2 : f2 gAdd (fC (.int 1)) (f2 gDiv (f1 gLen (fVar 1)) (fC (.int 80))) e1 = .ok (.int ((1 + t.length / 80 : Nat) : Int)) e1 := by
      refine f2_ok (e1 := e1) (a := .int 1) rfl d1 ?_
      show some (PyData.int (1 + (t.length : Int) / 80)) = _
      congr 2
    exact fItA_ok (fConsA_ok (e1 := e1) rfl (fConsA_ok l1 (fConsA_ok d2 fNilA_ok))) k2
  refine ⟨m', _, runF_rt rfl ((fSeq_ok s0).trans ((fSeq_ok (fFor_ok ri f1')).trans fin)) rfl, j2.mono (by omega), by rw [List.length_append]; simp; omega, fun d hd => ?_⟩
  rcases List.mem_append.mp hd with hd | hd
  · exact f3' d hd
  · simp at hd
    rcases hd with rfl | rfl | rfl
    · obtain ⟨q, q1, q2⟩ := cut_last (t := t) rfl (by omega)
      have ql := congrArg List.length q2
      rw [List.length_append, List.length_singleton] at ql
      exact ⟨_, rfl, ne_empty (n := t.cps.toList.length - 2) (by omega), fun bu => near_more q2 (hs q q1) (by omega) bu bt, by omega⟩
    · have ql : (t ++ "x" : Str).cps.toList = t.cps.toList ++ [120] := by
        rw [appL]
        congr 1
      have ql2 := congrArg List.length ql
      rw [List.length_append, List.length_singleton] at ql2
      exact ⟨_, rfl, ne_empty (n := t.cps.toList.length) (by omega), fun bu => near_more ql (by unfold Sg; omega) (by omega) bt bu, by rw [lenL]; omega⟩
    · have ql : (" " ++ t : Str).cps.toList = 32 :: t.cps.toList := by
        rw [appL, blankL]
        rfl
      have ql2 := congrArg List.length ql
      rw [List.length_cons] at ql2
      exact ⟨_, rfl, ne_empty (n := t.cps.toList.length) (by omega), fun bu => near_ahead ql bu, by rw [lenL]; omega⟩
end DL.K77
set_option Elab.async false
set_option linter.all false
set_option maxRecDepth 100000
set_option maxHeartbeats 1000000
namespace DL.K77
open PySem PySem.Spec PyProof.Rows L2
/-- a half never written -/
theorem e_read_empty (name : Str) (page side : Nat) : F_read_half [.d (.str name), .d (.int page), .d (.int side), .d (.str ("" : Str))] = .ok (.d (.tuple [.int 0, .str ("" : Str)])) [] := by
  have t0 : fB (f2 gEq (fVar 3) (fC (.str ("" : Str)))) (rd0 name "" page side) = .ok true (rd0 name "" page side) := by
    refine fB_ok (f2_ok (e1 := rd0 name "" page side) (a := .str ("" : Str)) (b := .str ("" : Str)) rfl rfl ?_)
    rw [eq_empty, decide_eq_true rfl]
  have r0 : fTup (fConsA (fC (.int 0)) (fConsA (fC (.str ("" : Str))) fNilA)) (rd0 name "" page side) = .ok (.tuple [.int 0, .str ("" : Str)]) (rd0 name "" page side) :=
    fTup_ok (fConsA_ok (e1 := rd0 name "" page side) rfl (fConsA_ok (e1 := rd0 name "" page side) rfl fNilA_ok)) rfl (by simp)
  refine read_run (e := rd0 name "" page side) ?_ rfl
  unfold d_read_half
  exact fSeq_rt ((fIf_t t0).trans (fRet_ok (fUp_ok r0)))
/-! ### pieces between blanks -/
/-- the pieces one behind the other, a blank between -/
def glue : List (List Nat) → List Nat
  | [] => []
  | [p] => p
  | p :: ps => p ++ 32 :: glue ps
/-- the first piece is what stands ahead of the first blank -/
theorem glue_first : ∀ {p : List Nat} {ps : List (List Nat)} {a b : List Nat}, 32 ∉ p → 32 ∉ a → glue (p :: ps) = a ++ 32 :: b → p = a ∧ ps ≠ [] ∧ glue ps = b
  | p, [], a, b, hp, ha, h => by
    exfalso
    apply hp
    rw [show glue [p] = p from rfl] at h
    rw [h]
    simp
  | p, q :: ps, a, b, hp, ha, h => by
    have h' : p ++ 32 :: glue (q :: ps) = a ++ 32 :: b := h
    rcases List.append_eq_append_iff.mp h' with ⟨c, h1, h2⟩ | ⟨c, h1, h2⟩
    · cases c with
      | nil =>
        simp at h1 h2
        exact ⟨h1.symm, by simp, h2⟩
      | cons x c =>
        exfalso
        rw [List.cons_append] at h2
        injection h2 with e1 e2
        subst e1
        apply ha
        rw [h1]
        simp
    · cases c with
      | nil =>
        simp at h1 h2
        exact ⟨h1, by simp, h2.symm⟩
      | cons x c =>
        exfalso
        rw [List.cons_append] at h2
        injection h2 with e1 e2
        subst e1
        apply hp
        rw [h1]
        simp
theorem join_L : ∀ ps : List Str, (Str.join (" " : Str) ps).cps.toList = glue (ps.map fun p => p.cps.toList)
  | [] => rfl
  | [p] => rfl
  | p :: q :: ps => by
    show (p ++ " " ++ Str.join (" " : Str) (q :: ps)).cps.toList = _
    rw [appL, appL, blankL, join_L (q :: ps)]
    show _ = p.cps.toList ++ 32 :: glue ((q :: ps).map fun p => p.cps.toList)
    simp
theorem split_glue (t : Str) : glue ((Txt.split t (" " : Str)).map fun p => p.cps.toList) = t.cps.toList := by
  rw [← join_L, PySem.StrLaws.join_split]
theorem split_blank (t : Str) : ∀ p ∈ Txt.split t (" " : Str), 32 ∉ p.cps.toList := by
  rw [blank_is]
  exact PySem.StrLaws.split_free t 32
/-- the first piece of a text with a blank -/
theorem split_step {p : Str} {ps : List Str} {a b : List Nat} (hp : ∀ q ∈ p :: ps, 32 ∉ q.cps.toList) (ha : 32 ∉ a) (h : glue ((p :: ps).map fun p => p.cps.toList) = a ++ 32 :: b) :
    p.cps.toList = a ∧ glue (ps.map fun p => p.cps.toList) = b ∧ ps ≠ [] ∧ ∀ q ∈ ps, 32 ∉ q.cps.toList := by
  rw [List.map_cons] at h
  obtain ⟨h1, h2, h3⟩ := glue_first (hp p List.mem_cons_self) ha h
  exact ⟨h1, h3, fun z => h2 (by rw [z]; rfl), fun q hq => hp q (List.mem_cons_of_mem _ hq)⟩
theorem dig_free (n : Nat) : 32 ∉ dig n := fun z => by have := dig_mem z; omega
theorem iS_of {p : Str} {n : Nat} (h : p.cps.toList = dig n) : p = iS n := Str.extL (by rw [h, iS_L])
theorem split_half {name part : Str} {page side n : Nat} (hn : 32 ∉ name.cps.toList) : ∃ q0 rest, Txt.split (halfS name page side n part) (" " : Str) = q0 :: name :: iS page :: iS side :: iS n :: rest ∧ rest ≠ [] ∧ Txt.join (" " : Str) rest = part := by
  have hb := split_blank (halfS name page side n part)
  have hg := split_glue (halfS name page side n part)
  have hp := Nat.lt_of_lt_of_le Nat.zero_lt_one (split_pos (halfS name page side n part) (" " : Str))
  rw [halfS_L, restS_L] at hg
  generalize Txt.split (halfS name page side n part) (" " : Str) = P at *
  have f0 : 32 ∉ (pad6 (sumS (restS name page side n part))).cps.toList := fun z => by
    rw [pad6_L] at z
    rcases List.mem_append.mp z with y | y
    · have := (List.mem_replicate.mp y).2
      omega
    · exact dig_free _ y
  obtain ⟨q0, P1, rfl⟩ : ∃ q r, P = q :: r := by
    cases P with
    | nil => simp at hp
    | cons q r => exact ⟨q, r, rfl⟩
  obtain ⟨_, g1, n1, b1⟩ := split_step hb f0 hg
  obtain ⟨q1, P2, rfl⟩ : ∃ q r, P1 = q :: r := List.exists_cons_of_ne_nil n1
  obtain ⟨e1, g2, n2, b2⟩ := split_step b1 hn g1
  obtain ⟨q2, P3, rfl⟩ : ∃ q r, P2 = q :: r := List.exists_cons_of_ne_nil n2
  obtain ⟨e2, g3, n3, b3⟩ := split_step b2 (dig_free page) g2
  obtain ⟨q3, P4, rfl⟩ : ∃ q r, P3 = q :: r := List.exists_cons_of_ne_nil n3
  obtain ⟨e3, g4, n4, b4⟩ := split_step b3 (dig_free side) g3
  obtain ⟨q4, P5, rfl⟩ : ∃ q r, P4 = q :: r := List.exists_cons_of_ne_nil n4
  obtain ⟨e4, g5, n5, b5⟩ := split_step b4 (dig_free n) g4
  refine ⟨q0, P5, ?_, n5, ?_⟩
  · rw [iS_of e2, iS_of e3, iS_of e4, show q1 = name from Str.extL e1]
  · apply Str.extL
    unfold Txt.join
    rw [PySem.StrLaws.glued_eq_join, join_L, g5]
end DL.K77
set_option Elab.async false
set_option linter.all false
set_option maxRecDepth 100000
set_option maxHeartbeats 1000000
namespace DL.K77
open PySem PySem.Spec PyProof.Rows L2
def kr0 (name t : Str) (page side : Nat) : Env := [some (.d (.str name)), some (.d (.int page)), some (.d (.int side)), some (.d (.str t)), none, none, none]
def kr1 (name t : Str) (page side : Nat) (P : List Str) : Env := [some (.d (.str name)), some (.d (.int page)), some (.d (.int side)), some (.d (.str t)), some (.d (.list (P.map .str))), none, none]
theorem kread_run {name t : Str} {page side : Nat} {m : M} {e : Env} (h : d__law_dk_read (kr0 name t page side) = .ok (.rt m) e) (he : outs b__law_dk_read e = some []) : F__law_dk_read [.d (.str name), .d (.int page), .d (.int side), .d (.str t)] = .ok m [] := runF_rt rfl h he
theorem gSplit_s {t : Str} (h : t.length ≤ 1000000) : gSplit t (.str (" " : Str)) = some (.list ((Txt.split t (" " : Str)).map .str)) := by
  unfold gSplit
  dsimp only
  rw [if_pos ⟨by decide, by rw [sizeLine_eq]; omega⟩]
theorem e_kread_empty (name : Str) (page side : Nat) : F__law_dk_read [.d (.str name), .d (.int page), .d (.int side), .d (.str ("" : Str))] = .ok (.d (.tuple [.int 0, .str ("" : Str)])) [] := by
  have t0 : fB (f2 gEq (fVar 3) (fC (.str ("" : Str)))) (kr0 name "" page side) = .ok true (kr0 name "" page side) := by
    refine fB_ok (f2_ok (e1 := kr0 name "" page side) (a := .str ("" : Str)) (b := .str ("" : Str)) rfl rfl ?_)
    rw [eq_empty, decide_eq_true rfl]
  have r0 : fTup (fConsA (fC (.int 0)) (fConsA (fC (.str ("" : Str))) fNilA)) (kr0 name "" page side) = .ok (.tuple [.int 0, .str ("" : Str)]) (kr0 name "" page side) :=
    fTup_ok (fConsA_ok (e1 := kr0 name "" page side) rfl (fConsA_ok (e1 := kr0 name "" page side) rfl fNilA_ok)) rfl (by simp)
  refine kread_run (e := kr0 name "" page side) ?_ rfl
  unfold d__law_dk_read
  exact fSeq_rt ((fIf_t t0).trans (fRet_ok (fUp_ok r0)))
/-- behind the split -/
def krG : Env → R Fl := (fSeq (fIf (fOr (fB (f2 gLt (f1 gLen (fVar 4)) (fC (.int 6)))) (fOr (fB (f2 gEq (f2 gIx (fVar 4) (fC (.int 4))) (fC (.str ("" : Str))))) (fOr (fB (f2 gGt (f1 gLen (f2 gIx (fVar 4) (fC (.int 4)))) (fC (.int 12)))) (fB (f2 gEq (f2 gIx (f2 gIx (fVar 4) (fC (.int 4))) (fC (.int 0))) (fC (.str ("0" : Str)))))))) (fRet (fUp (fC PyData.none))) fNx) (fSeq (fIf (fB (f2 gNe (fFrz (fLc [5] (fIt itS (f2 gIx (fVar 4) (fC (.int 4)))) (gN 5) (fB (f2 gNotIn (fVar 5) (fC (.str ("0123456789" : Str))))) (fC (.int 1)))) (fLst fNilA))) (fRet (fUp (fC PyData.none))) fNx) (fSeq (fSetV 6 (f2S gJoin (fC (.str (" " : Str))) (fSl (fVar 4) (fPart (fC (.int 5))) fNoPart))) (fRet (fUp (fIf (fB (f2 gEq (fVar 3) (fFrz (fCall b__law_dk_half F__law_dk_half (fConsA (fVar 0) (fConsA (fVar 1) (fConsA (fVar 2) (fConsA (f1 gInt (f2 gIx (fVar 4) (fC (.int 4)))) (fConsA (fVar 6) fNilA))))))))) (fTup (fConsA (f1 gInt (f2 gIx (fVar 4) (fC (.int 4)))) (fConsA (fVar 6) fNilA))) (fC PyData.none)))))))
theorem kr_pre {name t : Str} {page side : Nat} (hl : t.length ≤ 1000000) (ht : t ≠ ("" : Str)) : d__law_dk_read (kr0 name t page side) = krG (kr1 name t page side (Txt.split t (" " : Str))) := by
  have t0 : fB (f2 gEq (fVar 3) (fC (.str ("" : Str)))) (kr0 name t page side) = .ok false (kr0 name t page side) := by
    refine fB_ok (f2_ok (e1 := kr0 name t page side) (a := .str t) (b := .str ("" : Str)) rfl rfl ?_)
    rw [eq_empty, decide_eq_false ht]
  have s0 : ∀ g : Env → R Fl, fIf (fB (f2 gEq (fVar 3) (fC (.str ("" : Str))))) g fNx (kr0 name t page side) = .ok .nx (kr0 name t page side) := fun g => (fIf_f t0).trans rfl
  have s1 : fSetV 4 (f2S gSplit (fVar 3) (fC (.str (" " : Str)))) (kr0 name t page side) = .ok .nx (kr1 name t page side (Txt.split t (" " : Str))) :=
    fSetV_ok (e := kr0 name t page side) (f2S_ok (e1 := kr0 name t page side) (a := t) rfl rfl (gSplit_s hl))
  unfold d__law_dk_read
  exact (fSeq_ok (s0 _)).trans (fSeq_ok s1)
end DL.K77
set_option Elab.async false
set_option linter.all false
set_option maxRecDepth 100000
set_option maxHeartbeats 1000000
namespace DL.K77
open PySem PySem.Spec PyProof.Rows L2
theorem notin_fig {c : Nat} : gNotIn (.str ⟨#[c]⟩) (.str ("0123456789" : Str)) = some (.bool (!decide (48 ≤ c ∧ c ≤ 57))) := by
  show some (PyData.bool (!decide (c ∈ ("0123456789" : Str).cps.toList))) = _
  rw [figS_L]
  congr 3
  simp only [List.mem_cons, List.not_mem_nil, or_false]
  by_cases h : 48 ≤ c ∧ c ≤ 57
  · rw [decide_eq_true h, decide_eq_true (by omega)]
  · rw [decide_eq_false h, decide_eq_false (by omega)]
def offD : D → Option D
  | .str s => if 48 ≤ s.cps.getD 0 0 ∧ s.cps.getD 0 0 ≤ 57 then none else some (.int 1)
  | _ => none
/-- the fifth piece judged: its signs that are no figures -/
theorem kr_signs {name t : Str} {page side : Nat} {P : List Str} {p4 : Str} (hp : P[4]? = some p4) (hl : p4.length ≤ 1000000) :
    fFrz (fLc [5] (fIt itS (f2 gIx (fVar 4) (fC (.int 4)))) (gN 5) (fB (f2 gNotIn (fVar 5) (fC (.str ("0123456789" : Str))))) (fC (.int 1))) (kr1 name t page side P) =
      .ok (.list ((p4.cps.toList.map sign1).filterMap offD)) (kr1 name t page side P) := by
  have h1 := lcL_map (own := [5]) (g := gN 5) (fc := fB (f2 gNotIn (fVar 5) (fC (.str ("0123456789" : Str))))) (fe := fC (.int 1)) (ds := p4.cps.toList.map sign1) (e := kr1 name t page side P) offD (by rw [List.length_map, ← lenL, sizeLine_eq]; omega) (fun d hd => by
    obtain ⟨c, _, rfl⟩ := List.mem_map.mp hd
    let e5 : Env := [some (.d (.str name)), some (.d (.int page)), some (.d (.int side)), some (.d (.str t)), some (.d (.list (P.map .str))), some (.d (sign1 c)), none]
    have z1 : gN 5 (sign1 c) (kr1 name t page side P) = some e5 := rfl
    have z2 : fB (f2 gNotIn (fVar 5) (fC (.str ("0123456789" : Str)))) e5 = .ok (!decide (48 ≤ c ∧ c ≤ 57)) e5 := fB_ok (f2_ok (e1 := e5) (a := sign1 c) rfl rfl notin_fig)
    have z3 : offD (sign1 c) = if 48 ≤ c ∧ c ≤ 57 then none else some (.int 1) := rfl
    rw [z3]
    unfold lcTurn
    rw [z1]
    dsimp only
    rw [z2]
    by_cases h : 48 ≤ c ∧ c ≤ 57
    · rw [decide_eq_true h, if_pos h]
      rfl
    · rw [decide_eq_false h, if_neg h]
      rfl)
  have ix : f2 gIx (fVar 4) (fC (.int 4)) (kr1 name t page side P) = .ok (.str p4) (kr1 name t page side P) := by
    refine f2_ok (e1 := kr1 name t page side P) (a := .list (P.map .str)) (b := .int 4) rfl rfl ?_
    show atI (P.map PyData.str) ((4 : Nat) : Int) = _
    exact atI_nat (by rw [List.getElem?_map, hp]; rfl)
  have i1 : fIt itS (f2 gIx (fVar 4) (fC (.int 4))) (kr1 name t page side P) = .ok (p4.cps.toList.map sign1) (kr1 name t page side P) := fIt_ok ix rfl
  have w : wipeE (kr1 name t page side P) [5] = kr1 name t page side P := rfl
  have r := fFrz_ok (fLc_ok i1 (by rw [w]; exact h1))
  rw [frz_mds] at r
  exact r
end DL.K77
set_option Elab.async false
set_option linter.all false
set_option maxRecDepth 100000
set_option maxHeartbeats 1000000
namespace DL.K77
open PySem PySem.Spec PyProof.Rows L2
theorem fOr_f {a b : Env → R Bool} {e e1 : Env} (h : a e = .ok false e1) : fOr a b e = b e1 := by
  unfold fOr
  rw [h]
  rfl
theorem fOr_t {a b : Env → R Bool} {e e1 : Env} (h : a e = .ok true e1) : fOr a b e = .ok true e1 := by
  unfold fOr
  rw [h]
  rfl
theorem allS_map : ∀ ps : List Str, allS (ps.map .str) = some ps
  | [] => rfl
  | p :: ps => by rw [List.map_cons, allS, allS_map ps]; rfl
theorem off_digits {l : List Nat} (h : ∀ c ∈ l, 48 ≤ c ∧ c ≤ 57) : (l.map sign1).filterMap offD = [] := by
  rw [List.filterMap_eq_nil_iff]
  intro d hd
  obtain ⟨c, hc, rfl⟩ := List.mem_map.mp hd
  show (if 48 ≤ c ∧ c ≤ 57 then none else some (PyData.int 1)) = none
  rw [if_pos (h c hc)]
theorem ne_nil0 : gNe (.list []) (.list []) = some (.bool false) := ne_nil []
theorem ix_piece {name t : Str} {page side : Nat} {P : List Str} {p4 : Str} (hp : P[4]? = some p4) : f2 gIx (fVar 4) (fC (.int 4)) (kr1 name t page side P) = .ok (.str p4) (kr1 name t page side P) := by
  refine f2_ok (e1 := kr1 name t page side P) (a := .list (P.map .str)) (b := .int 4) rfl rfl ?_
  show atI (P.map PyData.str) ((4 : Nat) : Int) = _
  exact atI_nat (by rw [List.getElem?_map, hp]; rfl)
/-- the first four tests, where the fifth piece is a number from 1 on -/
theorem kr_tests {name t : Str} {page side n : Nat} {P : List Str} (hp : P[4]? = some (iS n)) (hl : 6 ≤ P.length) (h0 : 0 < n) (hn : n < 10 ^ 12) (g : Env → R Fl) :
    fIf (fOr (fB (f2 gLt (f1 gLen (fVar 4)) (fC (.int 6)))) (fOr (fB (f2 gEq (f2 gIx (fVar 4) (fC (.int 4))) (fC (.str ("" : Str))))) (fOr (fB (f2 gGt (f1 gLen (f2 gIx (fVar 4) (fC (.int 4)))) (fC (.int 12)))) (fB (f2 gEq (f2 gIx (f2 gIx (fVar 4) (fC (.int 4))) (fC (.int 0))) (fC (.str ("0" : Str)))))))) g fNx (kr1 name t page side P) = .ok .nx (kr1 name t page side P) := by
  have hL := iS_L n
  have hlen : (iS n).length = (dig n).length := by rw [lenL, hL]
  have hd12 : (dig n).length ≤ 12 := by
    unfold dig
    rw [List.length_map]
    exact digits10_le (by decide) hn
  obtain ⟨c, r, hcr, hc1, hc2⟩ := dig_top h0
  have ix := ix_piece (name := name) (t := t) (page := page) (side := side) hp
  have t1 : fB (f2 gLt (f1 gLen (fVar 4)) (fC (.int 6))) (kr1 name t page side P) = .ok false (kr1 name t page side P) := by
    refine fB_ok (f2_ok (e1 := kr1 name t page side P) (a := .int (P.map PyData.str).length) (b := .int 6) (f1_ok (e := kr1 name t page side P) (d := .list (P.map .str)) rfl rfl) rfl ?_)
    show some (PyData.bool (decide (((P.map PyData.str).length : Int) < 6))) = _
    rw [List.length_map, decide_eq_false (by omega)]
  have t2 : fB (f2 gEq (f2 gIx (fVar 4) (fC (.int 4))) (fC (.str ("" : Str)))) (kr1 name t page side P) = .ok false (kr1 name t page side P) := by
    refine fB_ok (f2_ok ix rfl ?_)
    rw [eq_empty, decide_eq_false]
    exact ne_empty (n := r.length) (by rw [hL, hcr]; rfl)
  have t3 : fB (f2 gGt (f1 gLen (f2 gIx (fVar 4) (fC (.int 4)))) (fC (.int 12))) (kr1 name t page side P) = .ok false (kr1 name t page side P) := by
    refine fB_ok (f2_ok (f1_ok ix (gLen_s (by omega))) rfl ?_)
    show some (PyData.bool (decide ((12 : Int) < ((iS n).length : Nat)))) = _
    rw [decide_eq_false (by omega)]
  have t4 : fB (f2 gEq (f2 gIx (f2 gIx (fVar 4) (fC (.int 4))) (fC (.int 0))) (fC (.str ("0" : Str)))) (kr1 name t page side P) = .ok false (kr1 name t page side P) := by
    have z : (iS n).cps.toList[0]? = some c := by rw [hL, hcr]; rfl
    refine fB_ok (f2_ok (a := sign1 c) (b := .str ("0" : Str)) (f2_ok (b := .int ((0 : Nat) : Int)) ix rfl (gIx_s z (by omega))) rfl ?_)
    show some (PyData.bool (decide ((⟨#[c]⟩ : Str) = ("0" : Str)))) = _
    rw [decide_eq_false]
    intro y
    have := congrArg (fun s : Str => s.cps.toList) y
    have h0 : ("0" : Str).cps.toList = [48] := by decide
    simp only [h0] at this
    simp at this
    omega
  exact (fIf_f ((fOr_f t1).trans ((fOr_f t2).trans ((fOr_f t3).trans t4)))).trans rfl
end DL.K77
set_option Elab.async false
set_option linter.all false
set_option maxRecDepth 100000
set_option maxHeartbeats 1000000
namespace DL.K77
open PySem PySem.Spec PyProof.Rows L2
/-- behind the tests: the fifth piece is n, the pieces behind it join to part -/
theorem kr_end {name t part : Str} {page side n : Nat} {P : List Str} (h1 : name.length ≤ 100) (h2 : page < 10 ^ 14) (h3 : side < 10 ^ 14) (hp : P[4]? = some (iS n)) (hl : 6 ≤ P.length) (hlen : P.length ≤ 1000000) (h0 : 0 < n) (hn : n < 10 ^ 12)
    (hj : Txt.join (" " : Str) (P.drop 5) = part) (hw : ((P.drop 5).map (·.length)).sum + (P.drop 5).length ≤ 1000000) (h5 : part.length ≤ 99000) :
    ∃ e, krG (kr1 name t page side P) = .ok (.rt (.d (if t = halfS name page side n part then .tuple [.int n, .str part] else .none))) e ∧ outs b__law_dk_read e = some [] := by
  have hn14 : n < 10 ^ 14 := Nat.lt_of_lt_of_le hn (by decide)
  have hL := iS_L n
  have hd12 : (dig n).length ≤ 12 := by
    unfold dig
    rw [List.length_map]
    exact digits10_le (by decide) hn
  have il : (iS n).length ≤ 12 := by rw [lenL, hL]; exact hd12
  have sg := kr_signs (name := name) (t := t) (page := page) (side := side) hp (by omega)
  rw [hL, off_digits (fun c hc => dig_mem hc)] at sg
  have s2 : ∀ g : Env → R Fl, fIf (fB (f2 gNe (fFrz (fLc [5] (fIt itS (f2 gIx (fVar 4) (fC (.int 4)))) (gN 5) (fB (f2 gNotIn (fVar 5) (fC (.str ("0123456789" : Str))))) (fC (.int 1)))) (fLst fNilA))) g fNx (kr1 name t page side P) = .ok .nx (kr1 name t page side P) := fun g =>
    (fIf_f (fB_ok (f2_ok sg (fLst_ok fNilA_ok rfl (by simp)) ne_nil0))).trans rfl
  let e6 : Env := [some (.d (.str name)), some (.d (.int page)), some (.d (.int side)), some (.d (.str t)), some (.d (.list (P.map .str))), none, some (.d (.str part))]
  have cd : cutD (P.map PyData.str) (some 5) none = (P.drop 5).map .str := by
    unfold cutD
    have z : HT.sIx (P.map PyData.str).length 0 (some 5) = 5 := by
      rw [show (5 : Int) = ((5 : Nat) : Int) from rfl, HT.sIx_nat, List.length_map, Nat.min_eq_left (by omega)]
    rw [z, HT.sIx_none, List.take_of_length_le (by rw [List.length_drop]; omega), List.map_drop]
  have sl : fSl (fVar 4) (fPart (fC (.int 5))) fNoPart (kr1 name t page side P) = .ok (.list ((P.drop 5).map .str)) (kr1 name t page side P) := by
    show R.of (some (PyData.list (cutD (P.map PyData.str) (some 5) none))) _ = _
    rw [cd]
    rfl
  have gj : gJoin (" " : Str) (.list ((P.drop 5).map .str)) = some (.str part) := by
    show joinD _ _ = _
    unfold joinD
    rw [allS_map]
    show (if _ then _ else _) = _
    rw [if_pos (by rw [blank_len]; omega), hj]
  have s3 : fSetV 6 (f2S gJoin (fC (.str (" " : Str))) (fSl (fVar 4) (fPart (fC (.int 5))) fNoPart)) (kr1 name t page side P) = .ok .nx e6 :=
    fSetV_ok (e := kr1 name t page side P) (f2S_ok (e1 := kr1 name t page side P) (a := (" " : Str)) rfl sl gj)
  have ix6 : f2 gIx (fVar 4) (fC (.int 4)) e6 = .ok (.str (iS n)) e6 := by
    refine f2_ok (e1 := e6) (a := .list (P.map .str)) (b := .int 4) rfl rfl ?_
    show atI (P.map PyData.str) ((4 : Nat) : Int) = _
    exact atI_nat (by rw [List.getElem?_map, hp]; rfl)
  have gi : gInt (.str (iS n)) = some (.int n) := by
    unfold gInt
    dsimp only
    rw [if_pos (by omega)]
    have := TL.int_num (n := n) (by rw [← dig_num]; omega)
    show (PySem.intText? (iS n)).map PyData.int = _
    rw [show PySem.intText? (iS n) = some (n : Int) from this]
    rfl
  have n6 : f1 gInt (f2 gIx (fVar 4) (fC (.int 4))) e6 = .ok (.int n) e6 := f1_ok ix6 gi
  have k6 : fConsA (fVar 0) (fConsA (fVar 1) (fConsA (fVar 2) (fConsA (f1 gInt (f2 gIx (fVar 4) (fC (.int 4)))) (fConsA (fVar 6) fNilA)))) e6 = .ok [.d (.str name), .d (.int page), .d (.int side), .d (.int n), .d (.str part)] e6 :=
    fConsA_ok (e1 := e6) rfl (fConsA_ok (e1 := e6) rfl (fConsA_ok (e1 := e6) rfl (fConsA_ok n6 (fConsA_ok (e1 := e6) rfl fNilA_ok))))
  have c6 : fFrz (fCall b__law_dk_half F__law_dk_half (fConsA (fVar 0) (fConsA (fVar 1) (fConsA (fVar 2) (fConsA (f1 gInt (f2 gIx (fVar 4) (fC (.int 4)))) (fConsA (fVar 6) fNilA)))))) e6 = .ok (.str (halfS name page side n part)) e6 :=
    fFrz_ok (call_ok (as := [.d (.str name), .d (.int page), .d (.int side), .d (.int n), .d (.str part)]) (e := e6) k6 (by simp [slotsOf]) rfl rfl (e_dk_half h1 h2 h3 hn14 (by omega)))
  have t6 : fB (f2 gEq (fVar 3) (fFrz (fCall b__law_dk_half F__law_dk_half (fConsA (fVar 0) (fConsA (fVar 1) (fConsA (fVar 2) (fConsA (f1 gInt (f2 gIx (fVar 4) (fC (.int 4)))) (fConsA (fVar 6) fNilA)))))))) e6 = .ok (decide (t = halfS name page side n part)) e6 := fB_ok (f2_ok (e1 := e6) (a := .str t) rfl c6 rfl)
  have r6 : fTup (fConsA (f1 gInt (f2 gIx (fVar 4) (fC (.int 4)))) (fConsA (fVar 6) fNilA)) e6 = .ok (.tuple [.int n, .str part]) e6 := fTup_ok (fConsA_ok n6 (fConsA_ok (e1 := e6) rfl fNilA_ok)) rfl (by simp)
  refine ⟨e6, ?_, rfl⟩
  unfold krG
  refine (fSeq_ok (kr_tests hp hl h0 hn _)).trans ((fSeq_ok (s2 _)).trans ((fSeq_ok s3).trans (fRet_ok (fUp_ok ?_))))
  by_cases ht : t = halfS name page side n part
  · rw [decide_eq_true ht] at t6
    rw [if_pos ht]
    exact (fIf_t t6).trans r6
  · rw [decide_eq_false ht] at t6
    rw [if_neg ht]
    exact (fIf_f t6).trans rfl
end DL.K77
set_option Elab.async false
set_option linter.all false
set_option maxRecDepth 100000
set_option maxHeartbeats 1000000
namespace DL.K77
open PySem PySem.Spec PyProof.Rows L2
local macro_rules | `(tactic| fail "run") => `(tactic| (apply fw_run; (focus rfl); (focus ((try simp only [List.map_cons, List.map_nil, List.length_cons, List.length_nil, Nat.reduceAdd, Nat.reduceSub, List.reduceReplicate, List.cons_append, List.nil_append, List.replicate_zero]); exact rfl))))
local macro_rules | `(tactic| fail "env") => `(tactic| (first | (dsimp only [List.set, putE, clrE, slotsOf, wipeE, gN, gT, gCons, gNil]; done) | (dsimp only [List.set, putE, clrE, slotsOf, wipeE, gN, gT, gCons, gNil]; exact rfl) | exact rfl))
local macro_rules | `(tactic| fail "side") => `(tactic| first | with_reducible assumption | exact Nat.le_of_ble_eq_true rfl | decide | omega)
local macro_rules | `(tactic| fail "ms") => `(tactic| repeat (first | with_reducible exact argMs_nil | with_reducible exact argD_nil | with_reducible apply argMs_d | with_reducible apply argD_d | ((with_reducible apply argMs_s); (focus rfl))))
local macro_rules | `(tactic| fail "lf") => `(tactic| ((with_reducible refine lf_id ?_); (first
  | with_reducible refine lf_bD ?_
  | ((with_reducible apply lf_ix); (focus rfl))
  | with_reducible refine lf qEq_s ?_
  | with_reducible refine lf qEq_i ?_
  | with_reducible refine lf qNe_s ?_
  | with_reducible refine lf qNe_i ?_
  | with_reducible refine lf qAdd_i ?_
  | with_reducible refine lf qSub ?_
  | with_reducible refine lf qLt ?_
  | with_reducible refine lf qLe ?_
  | with_reducible refine lf qGt ?_
  | with_reducible refine lf qGe ?_
  | with_reducible refine lf qG2 ?_
  | with_reducible refine lf qNeg ?_
  | with_reducible refine lf qLen_l ?_
  | with_reducible refine lf qLen_t ?_
  | with_reducible refine lf qIs ?_
  | with_reducible refine lf qIsNot ?_
  | with_reducible refine lf qTup_l ?_
  | with_reducible refine lf qTup_t ?_
  | with_reducible refine lf qItD ?_
  | with_reducible refine lf qItT ?_
  | with_reducible refine lf qItS ?_
  | with_reducible refine lf qEnum_l ?_
  | with_reducible refine lf qEnum_s ?_
  | with_reducible refine lf qSl_l ?_
  | ((with_reducible refine lf (qAdd_s ?k1) ?_); (case k1 => fail "side"))
  | ((with_reducible refine lf (qAdd_l ?k1) ?_); (case k1 => fail "side"))
  | ((with_reducible refine lf (qSl_s ?k1) ?_); (case k1 => fail "side"))
  | ((with_reducible refine lf (qLen_s ?k1) ?_); (case k1 => fail "side"))
  | ((with_reducible refine lf (qDiv ?k1) ?_); (case k1 => fail "side"))
  | ((with_reducible refine lf (qMod ?k1) ?_); (case k1 => fail "side"))
  | ((with_reducible refine lf (qMul ?k1) ?_); (case k1 => fail "side"))
  | ((with_reducible refine lf (qMulA_i (qMul ?k1)) ?_); (case k1 => fail "side"))
  | ((with_reducible refine lf (qNe_t ?k1 ?k2) ?_); (case k1 => first | assumption | rfl); (case k2 => first | assumption | rfl))
  | ((with_reducible refine lf (qEq_t ?k1 ?k2) ?_); (case k1 => first | assumption | rfl); (case k2 => first | assumption | rfl))
  | ((with_reducible refine lf (qNe_l ?k1 ?k2) ?_); (case k1 => first | assumption | rfl); (case k2 => first | assumption | rfl))
  | ((with_reducible refine lf (qEq_l ?k1 ?k2) ?_); (case k1 => first | assumption | rfl); (case k2 => first | assumption | rfl))
  | ((with_reducible refine lf (qRng1 ?k1) ?_); (case k1 => fail "side")))))
local macro_rules | `(tactic| fail "way") => `(tactic| ((with_reducible refine way_id ?_); (first
  | with_reducible refine way_not ?_
  | ((with_reducible refine way_dt ?_ ?_); (focus first | with_reducible rfl | with_reducible assumption | decide | omega))
  | ((with_reducible refine way_df ?_ ?_); (focus first | with_reducible assumption | decide | omega))
  | with_reducible refine way_nonT ?_
  | with_reducible refine way_nonI ?_
  | with_reducible refine way_nonS ?_
  | with_reducible refine way_nonU ?_
  | with_reducible refine way_nonL ?_
  | with_reducible refine way_nonB ?_
  | ((with_reducible refine way_t ?_ ?_); (focus rfl))
  | ((with_reducible refine way_f ?_ ?_); (focus rfl)))))
local macro_rules | `(tactic| fail "wp") => `(tactic| first
  | ((with_reducible refine wp_idD ?_); (first
    | ((with_reducible apply wp_var); (focus rfl))
    | with_reducible refine wp_c ?_
    | with_reducible refine wp_f2 ?_
    | with_reducible refine wp_f1 ?_
    | with_reducible refine wp_frz ?_
    | with_reducible refine wp_tup ?_
    | with_reducible refine wp_lst ?_
    | with_reducible refine wp_if ?_
    | with_reducible refine wp_f2S ?_
    | with_reducible refine wp_f1S ?_
    | with_reducible refine wp_sl ?_
    | with_reducible refine wp_ob ?_
    | with_reducible refine wp_fArgs ?_
    | with_reducible refine wp_joined ?_
    | with_reducible refine wp_andV ?_))
  | ((with_reducible refine wp_idA ?_); (first
    | with_reducible refine wp_consA ?_
    | with_reducible refine wp_nilA ?_
    | ((with_reducible apply wp_slotA); (focus rfl))))
  | ((with_reducible refine wp_idF ?_); (first
    | ((with_reducible refine wp_seqG ?_); intro G hG)
    | ((with_reducible apply wp_then_nxG); (focus with_reducible assumption); (focus fail "env"))
    | with_reducible refine wp_if ?_
    | with_reducible refine wp_setV ?_
    | with_reducible refine wp_ret ?_
    | with_reducible refine wp_nx ?_
    | with_reducible refine wp_then_rt ?_
    | with_reducible refine wp_setM ?_
    | with_reducible refine wp_drop ?_
    | ((with_reducible apply wp_still); (focus rfl))
    | with_reducible refine wp_par ?_
    | with_reducible refine wp_parMV ?_
    | with_reducible refine wp_asg ?_
    | with_reducible refine wp_for ?_
    | ((with_reducible apply wp_cont_nx); (focus fail "env"))
    | ((with_reducible apply wp_cont_ct); (focus fail "env"))
    | ((with_reducible apply wp_cont_bk); (focus fail "env"))
    | with_reducible refine wp_cont_rt ?_
    | with_reducible refine wp_forL_nil ?_))
  | ((with_reducible refine wp_idB ?_); (first
    | with_reducible refine wp_fB ?_
    | with_reducible refine wp_or ?_
    | with_reducible refine wp_and ?_
    | with_reducible refine wp_not ?_
    | with_reducible refine wp_yes ?_
    | with_reducible refine wp_tru ?_
    | with_reducible refine wp_if ?_))
  | ((with_reducible refine wp_idM ?_); (first
    | with_reducible refine wp_up ?_
    | with_reducible refine wp_call ?_
    | with_reducible refine wp_lc ?_
    | with_reducible refine wp_lstM ?_
    | with_reducible refine wp_callK ?_
    | with_reducible refine wp_call0 ?_
    | with_reducible refine wp_if ?_))
  | ((with_reducible refine wp_id ?_); (first
    | with_reducible refine wp_it ?_
    | with_reducible refine wp_itA ?_
    | with_reducible refine wp_noPart ?_
    | with_reducible refine wp_part ?_
    | with_reducible refine wp_j0 ?_
    | with_reducible refine wp_j ?_
    | ((with_reducible refine wp_lcL_cons ?_ ?_); (focus exact Nat.le_of_ble_eq_true rfl))
    | with_reducible refine wp_lcL_nil ?_)))
local macro_rules | `(tactic| fail "s1") => `(tactic| first
  | fail "wp"
  | fail "lf"
  | fail "way"
  | with_reducible refine wp_isS ?_
  | with_reducible refine wp_isI ?_
  | with_reducible refine wp_isB ?_
  | ((with_reducible apply frz_go); (focus first | with_reducible exact frz_dd | with_reducible exact frz_mds _))
  | ((with_reducible apply eq_go); (focus fail "env"))
  | ((with_reducible apply dis_go); (focus fail "ms"); (focus exact Nat.le_of_ble_eq_true rfl))
  | ((with_reducible apply arg_go); (focus first | exact List.nodup_nil | exact List.nodup_singleton _ | simp [slotsOf]); (focus rfl); (focus fail "ms"))
  | ((with_reducible apply argk_go); (focus rfl); (focus repeat (first | with_reducible exact mapk_nil | ((with_reducible apply mapk_cons); (focus rfl)))); (focus first | exact List.nodup_nil | exact List.nodup_singleton _ | simp [slotsOf]); (focus rfl); (focus fail "ms"))
  | with_reducible refine par_go ?_
  | ((with_reducible apply ret_go); (focus rfl))
  | ((with_reducible apply ret_nx); (focus rfl))
  | ((with_reducible apply lt_go); (focus fail "env")))
local macro_rules | `(tactic| fail "go") => `(tactic| repeat fail "s1")
local macro_rules | `(tactic| fail "un") => `(tactic| ((with_reducible apply wp_forL_cons); (focus fail "env")))
/-- what a half is read as -/
def rdD : Option (Nat × Str) → D
  | none => .none
  | some (n, p) => .tuple [.int n, .str p]
def stD : Option (Nat × Str) → Option (Nat × Str) → D
  | none, none => .tuple [.str "bent", .tuple [.int 0, .int 1]]
  | none, some _ => .tuple [.str "bent", .tuple [.int 0]]
  | some _, none => .tuple [.str "bent", .tuple [.int 1]]
  | some (n, p), some (k, q) => if n ≠ k then .tuple [.str "torn", .int n, .int k] else if n = 0 then .tuple [.str "blank"] else .tuple [.str "whole", .int n, .str (p ++ q)]
theorem e_state {name left right : Str} {page : Nat} {r0 r1 : Option (Nat × Str)} (h0 : F_read_half [.d (.str name), .d (.int page), .d (.int (0 : Nat)), .d (.str left)] = .ok (.d (rdD r0)) [])
    (h1 : F_read_half [.d (.str name), .d (.int page), .d (.int (1 : Nat)), .d (.str right)] = .ok (.d (rdD r1)) []) (hl : ∀ p q, r0.map (·.2) = some p → r1.map (·.2) = some q → p.length + q.length ≤ 16777216) :
    F_state_of_halves [.d (.str name), .d (.int page), .d (.str left), .d (.str right)] = .ok (.d (stD r0 r1)) [] := by
  apply fw_eq
  unfold F_state_of_halves
  fail "run"
  unfold d_state_of_halves
  fail "go"
  refine fw_of h0 ?_
  fail "go"
  refine fw_of h1 ?_
  rcases r0 with _ | ⟨n, p⟩ <;> rcases r1 with _ | ⟨k, q⟩ <;> unfold rdD <;> fail "go" <;> simp only [numL] <;> fail "go"
  · exact ⟨rfl, rfl⟩
  · exact ⟨rfl, rfl⟩
  · exact ⟨rfl, rfl⟩
  refine way_dec (fun hk => ?_) (fun hk => ?_)
  · have hk : n = k := Int.ofNat.inj hk
    fail "go"
    refine way_dec (fun hn => ?_) (fun hn => ?_)
    · fail "go"
      refine ⟨?_, rfl⟩
      unfold stD
      dsimp only
      rw [if_neg (fun z => z hk), if_pos (by omega)]
    · fail "go"
      have := hl p q rfl rfl
      fail "go"
      refine ⟨?_, rfl⟩
      unfold stD
      dsimp only
      rw [if_neg (fun z => z hk), if_neg (by omega)]
  · have hk : n ≠ k := fun z => hk (by rw [z])
    fail "go"
    refine ⟨?_, rfl⟩
    unfold stD
    dsimp only
    rw [if_pos hk]
theorem e_kstate {name left right : Str} {page : Nat} {r0 r1 : Option (Nat × Str)} (h0 : F__law_dk_read [.d (.str name), .d (.int page), .d (.int (0 : Nat)), .d (.str left)] = .ok (.d (rdD r0)) [])
    (h1 : F__law_dk_read [.d (.str name), .d (.int page), .d (.int (1 : Nat)), .d (.str right)] = .ok (.d (rdD r1)) []) (hl : ∀ p q, r0.map (·.2) = some p → r1.map (·.2) = some q → p.length + q.length ≤ 16777216) :
    F__law_dk_state [.d (.str name), .d (.int page), .d (.list [.str left, .str right])] = .ok (.d (stD r0 r1)) [] := by
  apply fw_eq
  unfold F__law_dk_state
  fail "run"
  unfold d__law_dk_state
  fail "go"
  refine fw_of h0 ?_
  fail "go"
  refine fw_of h1 ?_
  rcases r0 with _ | ⟨n, p⟩ <;> rcases r1 with _ | ⟨k, q⟩ <;> unfold rdD <;> fail "go"
  · exact ⟨rfl, rfl⟩
  · exact ⟨rfl, rfl⟩
  · exact ⟨rfl, rfl⟩
  refine way_dec (fun hk => ?_) (fun hk => ?_)
  · have hk : n = k := Int.ofNat.inj hk
    fail "go"
    refine way_dec (fun hn => ?_) (fun hn => ?_)
    · fail "go"
      refine ⟨?_, rfl⟩
      unfold stD
      dsimp only
      rw [if_neg (fun z => z hk), if_pos (by omega)]
    · fail "go"
      have := hl p q rfl rfl
      fail "go"
      refine ⟨?_, rfl⟩
      unfold stD
      dsimp only
      rw [if_neg (fun z => z hk), if_neg (by omega)]
  · have hk : n ≠ k := fun z => hk (by rw [z])
    fail "go"
    refine ⟨?_, rfl⟩
    unfold stD
    dsimp only
    rw [if_pos hk]
end DL.K77
set_option Elab.async false
set_option linter.all false
set_option maxRecDepth 100000
set_option maxHeartbeats 1000000
namespace DL.K77
open PySem PySem.Spec PyProof.Rows L2
local macro_rules | `(tactic| fail "run") => `(tactic| (apply fw_run; (focus rfl); (focus ((try simp only [List.map_cons, List.map_nil, List.length_cons, List.length_nil, Nat.reduceAdd, Nat.reduceSub, List.reduceReplicate, List.cons_append, List.nil_append, List.replicate_zero]); exact rfl))))
local macro_rules | `(tactic| fail "env") => `(tactic| (first | (dsimp only [List.set, putE, clrE, slotsOf, wipeE, gN, gT, gCons, gNil]; done) | (dsimp only [List.set, putE, clrE, slotsOf, wipeE, gN, gT, gCons, gNil]; exact rfl) | exact rfl))
local macro_rules | `(tactic| fail "side") => `(tactic| first | with_reducible assumption | exact Nat.le_of_ble_eq_true rfl | decide | omega)
local macro_rules | `(tactic| fail "ms") => `(tactic| repeat (first | with_reducible exact argMs_nil | with_reducible exact argD_nil | with_reducible apply argMs_d | with_reducible apply argD_d | ((with_reducible apply argMs_s); (focus rfl))))
local macro_rules | `(tactic| fail "lf") => `(tactic| ((with_reducible refine lf_id ?_); (first
  | with_reducible refine lf_bD ?_
  | ((with_reducible apply lf_ix); (focus rfl))
  | with_reducible refine lf qEq_s ?_
  | with_reducible refine lf qEq_i ?_
  | with_reducible refine lf qNe_s ?_
  | with_reducible refine lf qNe_i ?_
  | with_reducible refine lf qAdd_i ?_
  | with_reducible refine lf qSub ?_
  | with_reducible refine lf qLt ?_
  | with_reducible refine lf qLe ?_
  | with_reducible refine lf qGt ?_
  | with_reducible refine lf qGe ?_
  | with_reducible refine lf qG2 ?_
  | with_reducible refine lf qNeg ?_
  | with_reducible refine lf qLen_l ?_
  | with_reducible refine lf qLen_t ?_
  | with_reducible refine lf qIs ?_
  | with_reducible refine lf qIsNot ?_
  | with_reducible refine lf qTup_l ?_
  | with_reducible refine lf qTup_t ?_
  | with_reducible refine lf qItD ?_
  | with_reducible refine lf qItT ?_
  | with_reducible refine lf qItS ?_
  | with_reducible refine lf qEnum_l ?_
  | with_reducible refine lf qEnum_s ?_
  | with_reducible refine lf qSl_l ?_
  | ((with_reducible refine lf (qAdd_s ?k1) ?_); (case k1 => fail "side"))
  | ((with_reducible refine lf (qAdd_l ?k1) ?_); (case k1 => fail "side"))
  | ((with_reducible refine lf (qSl_s ?k1) ?_); (case k1 => fail "side"))
  | ((with_reducible refine lf (qLen_s ?k1) ?_); (case k1 => fail "side"))
  | ((with_reducible refine lf (qDiv ?k1) ?_); (case k1 => fail "side"))
  | ((with_reducible refine lf (qMod ?k1) ?_); (case k1 => fail "side"))
  | ((with_reducible refine lf (qMul ?k1) ?_); (case k1 => fail "side"))
  | ((with_reducible refine lf (qMulA_i (qMul ?k1)) ?_); (case k1 => fail "side"))
  | ((with_reducible refine lf (qNe_t ?k1 ?k2) ?_); (case k1 => first | assumption | rfl); (case k2 => first | assumption | rfl))
  | ((with_reducible refine lf (qEq_t ?k1 ?k2) ?_); (case k1 => first | assumption | rfl); (case k2 => first | assumption | rfl))
  | ((with_reducible refine lf (qNe_l ?k1 ?k2) ?_); (case k1 => first | assumption | rfl); (case k2 => first | assumption | rfl))
  | ((with_reducible refine lf (qEq_l ?k1 ?k2) ?_); (case k1 => first | assumption | rfl); (case k2 => first | assumption | rfl))
  | ((with_reducible refine lf (qRng1 ?k1) ?_); (case k1 => fail "side")))))
local macro_rules | `(tactic| fail "way") => `(tactic| ((with_reducible refine way_id ?_); (first
  | with_reducible refine way_not ?_
  | ((with_reducible refine way_dt ?_ ?_); (focus first | with_reducible rfl | with_reducible assumption | decide | omega))
  | ((with_reducible refine way_df ?_ ?_); (focus first | with_reducible assumption | decide | omega))
  | with_reducible refine way_nonT ?_
  | with_reducible refine way_nonI ?_
  | with_reducible refine way_nonS ?_
  | with_reducible refine way_nonU ?_
  | with_reducible refine way_nonL ?_
  | with_reducible refine way_nonB ?_
  | ((with_reducible refine way_t ?_ ?_); (focus rfl))
  | ((with_reducible refine way_f ?_ ?_); (focus rfl)))))
local macro_rules | `(tactic| fail "wp") => `(tactic| first
  | ((with_reducible refine wp_idD ?_); (first
    | ((with_reducible apply wp_var); (focus rfl))
    | with_reducible refine wp_c ?_
    | with_reducible refine wp_f2 ?_
    | with_reducible refine wp_f1 ?_
    | with_reducible refine wp_frz ?_
    | with_reducible refine wp_tup ?_
    | with_reducible refine wp_lst ?_
    | with_reducible refine wp_if ?_
    | with_reducible refine wp_f2S ?_
    | with_reducible refine wp_f1S ?_
    | with_reducible refine wp_sl ?_
    | with_reducible refine wp_ob ?_
    | with_reducible refine wp_fArgs ?_
    | with_reducible refine wp_joined ?_
    | with_reducible refine wp_andV ?_))
  | ((with_reducible refine wp_idA ?_); (first
    | with_reducible refine wp_consA ?_
    | with_reducible refine wp_nilA ?_
    | ((with_reducible apply wp_slotA); (focus rfl))))
  | ((with_reducible refine wp_idF ?_); (first
    | ((with_reducible refine wp_seqG ?_); intro G hG)
    | ((with_reducible apply wp_then_nxG); (focus with_reducible assumption); (focus fail "env"))
    | with_reducible refine wp_if ?_
    | with_reducible refine wp_setV ?_
    | with_reducible refine wp_ret ?_
    | with_reducible refine wp_nx ?_
    | with_reducible refine wp_then_rt ?_
    | with_reducible refine wp_setM ?_
    | with_reducible refine wp_drop ?_
    | ((with_reducible apply wp_still); (focus rfl))
    | with_reducible refine wp_par ?_
    | with_reducible refine wp_parMV ?_
    | with_reducible refine wp_asg ?_
    | with_reducible refine wp_for ?_
    | ((with_reducible apply wp_cont_nx); (focus fail "env"))
    | ((with_reducible apply wp_cont_ct); (focus fail "env"))
    | ((with_reducible apply wp_cont_bk); (focus fail "env"))
    | with_reducible refine wp_cont_rt ?_
    | with_reducible refine wp_forL_nil ?_))
  | ((with_reducible refine wp_idB ?_); (first
    | with_reducible refine wp_fB ?_
    | with_reducible refine wp_or ?_
    | with_reducible refine wp_and ?_
    | with_reducible refine wp_not ?_
    | with_reducible refine wp_yes ?_
    | with_reducible refine wp_tru ?_
    | with_reducible refine wp_if ?_))
  | ((with_reducible refine wp_idM ?_); (first
    | with_reducible refine wp_up ?_
    | with_reducible refine wp_call ?_
    | with_reducible refine wp_lc ?_
    | with_reducible refine wp_lstM ?_
    | with_reducible refine wp_callK ?_
    | with_reducible refine wp_call0 ?_
    | with_reducible refine wp_if ?_))
  | ((with_reducible refine wp_id ?_); (first
    | with_reducible refine wp_it ?_
    | with_reducible refine wp_itA ?_
    | with_reducible refine wp_noPart ?_
    | with_reducible refine wp_part ?_
    | with_reducible refine wp_j0 ?_
    | with_reducible refine wp_j ?_
    | ((with_reducible refine wp_lcL_cons ?_ ?_); (focus exact Nat.le_of_ble_eq_true rfl))
    | with_reducible refine wp_lcL_nil ?_)))
local macro_rules | `(tactic| fail "s1") => `(tactic| first
  | fail "wp"
  | fail "lf"
  | fail "way"
  | with_reducible refine wp_isS ?_
  | with_reducible refine wp_isI ?_
  | with_reducible refine wp_isB ?_
  | ((with_reducible apply frz_go); (focus first | with_reducible exact frz_dd | with_reducible exact frz_mds _))
  | ((with_reducible apply eq_go); (focus fail "env"))
  | ((with_reducible apply dis_go); (focus fail "ms"); (focus exact Nat.le_of_ble_eq_true rfl))
  | ((with_reducible apply arg_go); (focus first | exact List.nodup_nil | exact List.nodup_singleton _ | simp [slotsOf]); (focus rfl); (focus fail "ms"))
  | ((with_reducible apply argk_go); (focus rfl); (focus repeat (first | with_reducible exact mapk_nil | ((with_reducible apply mapk_cons); (focus rfl)))); (focus first | exact List.nodup_nil | exact List.nodup_singleton _ | simp [slotsOf]); (focus rfl); (focus fail "ms"))
  | with_reducible refine par_go ?_
  | ((with_reducible apply ret_go); (focus rfl))
  | ((with_reducible apply ret_nx); (focus rfl))
  | ((with_reducible apply lt_go); (focus fail "env")))
local macro_rules | `(tactic| fail "go") => `(tactic| repeat fail "s1")
local macro_rules | `(tactic| fail "un") => `(tactic| ((with_reducible apply wp_forL_cons); (focus fail "env")))
theorem dig_of {l : List Nat} {c : Nat} {r : List Nat} (h : l = c :: r) (h1 : 49 ≤ c) (hd : ∀ x ∈ l, 48 ≤ x ∧ x ≤ 57) (hl : l.length ≤ 12) : ∃ n, 0 < n ∧ n < 10 ^ 12 ∧ l = dig n := by
  have e : Nat.toDigits 10 (NumText.digitsVal l) = l.map Char.ofNat := NumText.toDigits_digitsVal r.length l (by rw [h]; rfl) hd (.inr ⟨c, r, h, h1⟩)
  refine ⟨NumText.digitsVal l, ?_, ?_, ?_⟩
  · rw [h]
    exact NumText.digitsVal_pos h1
  · refine Nat.lt_of_not_le fun z => ?_
    have := digits10_ge z
    rw [e, List.length_map] at this
    omega
  · unfold dig
    rw [e, List.map_map]
    have : l.map (Char.toNat ∘ Char.ofNat) = l.map id := List.map_congr_left fun x hx => by
      have := hd x hx
      show (Char.ofNat x).toNat = x
      have hx : x < 58 := by omega
      have all : ∀ y < 58, (Char.ofNat y).toNat = y := by decide
      exact all x hx
    rw [this, List.map_id]
theorem glue_len : ∀ ps : List (List Nat), ps ≠ [] → (ps.map List.length).sum + ps.length = (glue ps).length + 1
  | [], h => (h rfl).elim
  | [p], _ => by simp [glue]
  | p :: q :: ps, _ => by
    have ih := glue_len (q :: ps) (by simp)
    rw [List.map_cons, List.sum_cons, List.length_cons]
    show _ = (p ++ 32 :: glue (q :: ps)).length + 1
    rw [List.length_append, List.length_cons]
    rw [List.length_cons] at ih ⊢
    omega
theorem sum_drop : ∀ (k : Nat) (l : List Nat), (l.drop k).sum ≤ l.sum
  | 0, l => Nat.le_refl _
  | k + 1, [] => Nat.le_refl _
  | k + 1, a :: l => by
    rw [List.drop_succ_cons, List.sum_cons]
    have := sum_drop k l
    omega
theorem mem_sum : ∀ {l : List Nat} {a : Nat}, a ∈ l → a ≤ l.sum
  | b :: l, a, h => by
    rw [List.sum_cons]
    rcases List.mem_cons.mp h with rfl | h
    · omega
    · have := mem_sum h
      omega
theorem split_sum (t : Str) : ((Txt.split t (" " : Str)).map (·.length)).sum + (Txt.split t (" " : Str)).length = t.length + 1 := by
  have hp := Nat.lt_of_lt_of_le Nat.zero_lt_one (split_pos t (" " : Str))
  have h := glue_len ((Txt.split t (" " : Str)).map fun p => p.cps.toList) (by
    intro z
    have := congrArg List.length z
    rw [List.length_map, List.length_nil] at this
    omega)
  rw [split_glue, ← lenL, List.map_map, List.length_map] at h
  rw [← h]
  congr 3
/-- the pieces from the sixth on, joined -/
theorem rest_len {t : Str} {P : List Str} (h : Txt.split t (" " : Str) = P) (hl : 6 ≤ P.length) : (Txt.join (" " : Str) (P.drop 5)).length + 5 ≤ t.length := by
  have h1 := split_sum t
  rw [h] at h1
  rw [lenL]
  unfold Txt.join
  rw [PySem.StrLaws.glued_eq_join, join_L]
  have h2 := glue_len ((P.drop 5).map fun p => p.cps.toList) (by
    intro z
    have := congrArg List.length z
    rw [List.length_map, List.length_drop, List.length_nil] at this
    omega)
  rw [List.map_map, List.length_map, List.length_drop] at h2
  have h3 := sum_drop 5 (P.map (·.length))
  rw [← List.map_drop] at h3
  have h4 : (P.drop 5).map (List.length ∘ fun p : Str => p.cps.toList) = (P.drop 5).map (·.length) := List.map_congr_left fun x _ => (lenL x).symm
  rw [h4] at h2
  omega
theorem off_ints : ∀ l : List Nat, ∃ js : List Int, (l.map sign1).filterMap offD = js.map .int ∧ (js = [] → ∀ c ∈ l, 48 ≤ c ∧ c ≤ 57)
  | [] => ⟨[], rfl, fun _ _ h => by cases h⟩
  | c :: l => by
    obtain ⟨js, h1, h2⟩ := off_ints l
    have e : offD (sign1 c) = if 48 ≤ c ∧ c ≤ 57 then none else some (.int 1) := rfl
    by_cases h : 48 ≤ c ∧ c ≤ 57
    · refine ⟨js, ?_, fun z x hx => ?_⟩
      · rw [List.map_cons, List.filterMap_cons, e, if_pos h]
        exact h1
      · rcases List.mem_cons.mp hx with rfl | hx
        · exact h
        · exact h2 z x hx
    · refine ⟨1 :: js, ?_, fun z => by cases z⟩
      rw [List.map_cons, List.filterMap_cons, e, if_neg h, h1]
      rfl
theorem e_kread_off {name t : Str} {page side : Nat} (h1 : name.length ≤ 100) (h2 : page < 10 ^ 14) (h3 : side < 10 ^ 14) (h5 : t.length ≤ 3000) (ht : t ≠ ("" : Str)) (hb : ¬ Bal t) :
    F__law_dk_read [.d (.str name), .d (.int page), .d (.int side), .d (.str t)] = .ok (.d .none) [] := by
  apply fw_eq
  unfold F__law_dk_read
  fail "run"
  unfold d__law_dk_read
  fail "go"
  refine lf (gSplit_s (by omega)) ?_
  generalize hP : Txt.split t (" " : Str) = P
  fail "go"
  refine way_dec (fun _ => ?_) (fun hl => ?_)
  · fail "go"
    exact ⟨rfl, rfl⟩
  rw [List.length_map] at hl
  have hl : 6 ≤ P.length := by omega
  obtain ⟨p4, hp⟩ : ∃ p4, P[4]? = some p4 := ⟨P[4], List.getElem?_eq_getElem (by omega)⟩
  have ix : gIx (.list (P.map .str)) (.int 4) = some (.str p4) := by
    show atI (P.map PyData.str) ((4 : Nat) : Int) = _
    exact atI_nat (by rw [List.getElem?_map, hp]; rfl)
  fail "go"
  refine lf ix ?_
  have hs := split_sum t
  rw [hP] at hs
  have ip : p4.length ≤ t.length := by
    have := mem_sum (List.mem_map.mpr ⟨p4, List.mem_of_getElem? hp, rfl⟩ : p4.length ∈ P.map (·.length))
    omega
  fail "go"
  refine way_dec (fun _ => ?_) (fun h0 => ?_)
  · fail "go"
    exact ⟨rfl, rfl⟩
  fail "go"
  refine lf ix ?_
  fail "go"
  refine way_dec (fun _ => ?_) (fun h12 => ?_)
  · fail "go"
    exact ⟨rfl, rfl⟩
  have h12 : p4.length ≤ 12 := by omega
  obtain ⟨c, r, hc⟩ : ∃ c r, p4.cps.toList = c :: r := by
    cases e : p4.cps.toList with
    | nil => exact (h0 (Str.extL (by rw [e]; rfl))).elim
    | cons c r => exact ⟨c, r, rfl⟩
  fail "go"
  refine lf ix ?_
  fail "go"
  refine lf (gIx_s (p := 0) (c := c) (by rw [hc]; rfl) (by omega)) ?_
  fail "go"
  refine lf (qEq_s (x := ⟨#[c]⟩) (y := "0")) ?_
  fail "go"
  refine way_dec (fun _ => ?_) (fun h48 => ?_)
  · fail "go"
    exact ⟨rfl, rfl⟩
  have h48 : c ≠ 48 := fun z => h48 (by rw [z]; rfl)
  fail "go"
  refine lf ix ?_
  fail "go"
  obtain ⟨js, j1, j2⟩ := off_ints p4.cps.toList
  refine wp_lcL_map offD (by rw [List.length_map, ← lenL]; omega) (fun d hd => ?_) ?_
  · obtain ⟨c, _, rfl⟩ := List.mem_map.mp hd
    fail "go"
    refine lf notin_fig ?_
    fail "go"
    refine way_dec (fun hc => ?_) (fun hc => ?_)
    · fail "go"
      refine ⟨?_, rfl⟩
      show none = if 48 ≤ c ∧ c ≤ 57 then none else some (PyData.int 1)
      rw [if_pos hc]
    · fail "go"
      refine ⟨?_, rfl⟩
      show _ = if 48 ≤ c ∧ c ≤ 57 then none else some (PyData.int 1)
      rw [if_neg hc]
  rw [j1]
  fail "go"
  refine lf (ne_nil js) ?_
  fail "go"
  by_cases hj : js = []
  · subst hj
    have hd := j2 rfl
    obtain ⟨n, n0, n12, hn⟩ := dig_of (l := p4.cps.toList) hc (by have := hd c (by rw [hc]; simp); omega) hd (by rw [← lenL]; exact h12)
    have hp4 : p4 = iS n := iS_of hn
    have n14 : n < 10 ^ 14 := Nat.lt_trans n12 (by decide)
    have cd : cutD (P.map PyData.str) (some 5) none = (P.drop 5).map .str := by
      unfold cutD
      have z : HT.sIx (P.map PyData.str).length 0 (some 5) = 5 := by
        rw [show (5 : Int) = ((5 : Nat) : Int) from rfl, HT.sIx_nat, List.length_map, Nat.min_eq_left (by omega)]
      rw [z, HT.sIx_none, List.take_of_length_le (by rw [List.length_drop]; omega), List.map_drop]
    have rl := rest_len hP hl
    have sd := sum_drop 5 (P.map (·.length))
    rw [← List.map_drop] at sd
    have gj : gJoin (" " : Str) (.list (cutD (P.map PyData.str) (some 5) none)) = some (.str (Txt.join (" " : Str) (P.drop 5))) := by
      rw [cd]
      show joinD _ _ = _
      unfold joinD
      rw [allS_map]
      show (if _ then _ else _) = _
      rw [if_pos (by rw [blank_len, List.length_drop]; omega)]
    have gi : gInt (.str p4) = some (.int n) := by
      rw [hp4] at ip h12 ⊢
      unfold gInt
      dsimp only
      rw [if_pos (by omega)]
      show (PySem.intText? (iS n)).map PyData.int = _
      rw [show PySem.intText? (iS n) = some (n : Int) from TL.int_num (n := n) (by rw [← dig_num, ← hn, ← lenL]; omega)]
      rfl
    fail "go"
    refine lf gj ?_
    fail "go"
    refine lf ix ?_
    refine lf gi ?_
    fail "go"
    refine fw_of (e_dk_half h1 h2 h3 n14 (by omega)) ?_
    fail "go"
    refine way_df (fun z => hb (by rw [z]; exact half_bal _ _ _ _ _)) ?_
    fail "go"
    exact ⟨rfl, rfl⟩
  · have : js.isEmpty = false := by cases js with | nil => exact (hj rfl).elim | cons _ _ => rfl
    rw [this]
    fail "go"
    exact ⟨rfl, rfl⟩
end DL.K77
set_option Elab.async false
set_option linter.all false
set_option maxRecDepth 100000
set_option maxHeartbeats 1000000
namespace DL.K77
open PySem PySem.Spec PyProof.Rows L2
theorem pre_blank : ∀ {a b x y : List Nat}, 32 ∉ a → 32 ∉ b → a ++ 32 :: x <+: b ++ 32 :: y → a = b ∧ x <+: y
  | [], [], x, y, _, _, h => ⟨rfl, (List.cons_prefix_cons.mp h).2⟩
  | [], c :: b, x, y, _, hb, h => by
    have := (List.cons_prefix_cons.mp h).1
    exact (hb (by rw [← this]; simp)).elim
  | c :: a, [], x, y, ha, _, h => by
    have := (List.cons_prefix_cons.mp h).1
    exact (ha (by rw [this]; simp)).elim
  | c :: a, d :: b, x, y, ha, hb, h => by
    have h' : c :: (a ++ 32 :: x) <+: d :: (b ++ 32 :: y) := h
    obtain ⟨e1, g⟩ := List.cons_prefix_cons.mp h'
    obtain ⟨e2, g⟩ := pre_blank (fun z => ha (List.mem_cons_of_mem _ z)) (fun z => hb (List.mem_cons_of_mem _ z)) g
    exact ⟨by rw [e1, e2], g⟩
theorem dig_inj {a b : Nat} (h : dig a = dig b) : a = b := by
  have h1 := TL.numL_val a
  have h2 := TL.numL_val b
  rw [← dig_num, h, dig_num, h2] at h1
  exact h1.symm
/-- a name of a disk -/
structure Nm (name : Str) : Prop where
  len : name.length ≤ 20
  ok : ∀ c ∈ name.cps.toList, 33 ≤ c ∧ c ≤ 126
theorem Nm.free {name : Str} (h : Nm name) : 32 ∉ name.cps.toList := fun z => by have := h.ok _ z; omega
theorem hd_pre {name name' part : Str} {page page' side side' n : Nat} (h1 : Nm name) (h2 : Nm name') (h : (hdS name page side).cps.toList <+: (restS name' page' side' n part).cps.toList) : name = name' ∧ page = page' ∧ side = side' := by
  rw [hdS_L, restS_L] at h
  obtain ⟨e1, h⟩ := pre_blank h1.free h2.free h
  obtain ⟨e2, h⟩ := pre_blank (dig_free _) (dig_free _) h
  obtain ⟨e3, h⟩ := pre_blank (dig_free _) (dig_free _) h
  exact ⟨Str.extL e1, dig_inj e2, dig_inj e3⟩
theorem half_len {name part : Str} {page side n : Nat} (h1 : Nm name) (h2 : page < 10 ^ 14) (h3 : side < 10 ^ 14) (hn : n < 10 ^ 14) : (halfS name page side n part).length ≤ 80 + part.length := by
  rw [lenL, halfS_L, restS_L]
  simp only [List.length_append, List.length_cons]
  rw [← lenL, ← lenL, ← lenL, pad6_len (sumS_lt _)]
  have d1 : (dig page).length ≤ 14 := by unfold dig; rw [List.length_map]; exact digits10_le (by decide) h2
  have d2 : (dig side).length ≤ 14 := by unfold dig; rw [List.length_map]; exact digits10_le (by decide) h3
  have d3 : (dig n).length ≤ 14 := by unfold dig; rw [List.length_map]; exact digits10_le (by decide) hn
  have := h1.len
  omega
theorem half_ge (name part : Str) (page side n : Nat) : 10 ≤ (halfS name page side n part).length + 4 := by
  rw [lenL, halfS_L]
  simp only [List.length_append, List.length_cons]
  rw [← lenL, ← lenL, pad6_len (sumS_lt _)]
  omega
theorem half_ne (name part : Str) (page side n : Nat) : halfS name page side n part ≠ ("" : Str) := fun z => by
  have := half_ge name part page side n
  rw [z] at this
  have e0 : ("" : Str).length = 0 := by decide
  omega
theorem half_signs {name part : Str} {page side n : Nat} (h1 : Nm name) (h2 : ∀ c ∈ part.cps.toList, Sg c) : ∀ c ∈ (halfS name page side n part).cps.toList, Sg c := by
  intro c hc
  rw [halfS_L, restS_L, pad6_L] at hc
  have hd : ∀ {k : Nat}, c ∈ dig k → Sg c := fun h => by have := dig_mem h; unfold Sg; omega
  have h32 : c = 32 → Sg c := fun h => by unfold Sg; omega
  have h48 : ∀ {k : Nat}, c ∈ List.replicate k 48 → Sg c := fun h => by have := (List.mem_replicate.mp h).2; unfold Sg; omega
  have hnm : c ∈ name.cps.toList → Sg c := fun h => by have := h1.ok c h; unfold Sg; omega
  simp only [List.mem_append, List.mem_cons] at hc
  rcases hc with (h | h) | h | h | h | h | h | h | h | h | h
  · exact h48 h
  · exact hd h
  · exact h32 h
  · exact hnm h
  · exact h32 h
  · exact hd h
  · exact h32 h
  · exact hd h
  · exact h32 h
  · exact hd h
  · rcases h with h | h
    · exact h32 h
    · exact h2 c h
/-- another name, page or side: not sound -/
theorem e_read_other {name name' part : Str} {page page' side side' n : Nat} (h1 : Nm name) (h1' : Nm name') (h2 : page < 10 ^ 14) (h2' : page' < 10 ^ 14) (h3 : side < 10 ^ 14) (h3' : side' < 10 ^ 14) (hn : n < 10 ^ 14) (h5 : part.length ≤ 2000) (ne : ¬ (name = name' ∧ page = page' ∧ side = side')) :
    F_read_half [.d (.str name), .d (.int page), .d (.int side), .d (.str (halfS name' page' side' n part))] = .ok (.d .none) [] := by
  have hl := half_len h1' h2' h3' hn (part := part)
  refine e_read_else (by have := h1.len; omega) h2 h3 (by omega) (half_ne _ _ _ _ _) (half_bal _ _ _ _ _) fun z => ne ?_
  rw [(half_rest name' part page' side' n).1] at z
  exact hd_pre h1 h1' z
theorem e_kread_half {name part : Str} {page side side' n : Nat} (h1 : Nm name) (h2 : page < 10 ^ 14) (h3 : side < 10 ^ 14) (h3' : side' < 10 ^ 14) (h0 : 0 < n) (hn : n < 10 ^ 12) (h5 : part.length ≤ 2000) :
    F__law_dk_read [.d (.str name), .d (.int page), .d (.int side), .d (.str (halfS name page side' n part))] = .ok (.d (if side' = side then .tuple [.int n, .str part] else .none)) [] := by
  have hn14 : n < 10 ^ 14 := Nat.lt_of_lt_of_le hn (by decide)
  have hl := half_len h1 h2 h3' hn14 (part := part)
  have hne := half_ne name part page side' n
  obtain ⟨q0, rest, hs, hr, hj⟩ := split_half (part := part) (page := page) (side := side') (n := n) h1.free
  have hpre := kr_pre (name := name) (page := page) (side := side) (t := halfS name page side' n part) (by omega) hne
  have hsum := split_sum (halfS name page side' n part)
  rw [hs] at hsum hpre
  have hlen : 6 ≤ (q0 :: name :: iS page :: iS side' :: iS n :: rest).length := by
    cases rest with
    | nil => exact (hr rfl).elim
    | cons a b => simp
  have sd := sum_drop 5 ((q0 :: name :: iS page :: iS side' :: iS n :: rest).map (·.length))
  rw [← List.map_drop] at sd
  obtain ⟨e, k1, k2⟩ := kr_end (name := name) (t := halfS name page side' n part) (part := part) (page := page) (side := side) (n := n) (P := q0 :: name :: iS page :: iS side' :: iS n :: rest) (by have := h1.len; omega) h2 h3 rfl hlen (by omega) h0 hn hj (by rw [List.length_drop]; omega) (by omega)
  rw [kread_run (hpre.trans k1) k2]
  by_cases e : side' = side
  · subst e
    rw [if_pos rfl, if_pos rfl]
  · rw [if_neg e, if_neg]
    intro z
    have z1 := (half_rest name part page side' n).1
    rw [z, (half_rest name part page side n).1] at z1
    have := hd_pre (name := name) (page := page) (side := side') (name' := name) (page' := page) (side' := side) (n := n) (part := part) h1 h1 (by rw [z1, rest_hd]; exact List.prefix_append _ _)
    exact e this.2.2
/-- one sign at the end exchanged -/
theorem last_off {t : Str} {c : Nat} (bt : Bal t) (hs : ∀ c ∈ t.cps.toList, Sg c) (hl : t.length ≤ 2000) (hc : Sg c) (hne : t.cps.toList.getLast? ≠ some c) :
    ¬ Bal (cutS t none (some (-1)) ++ ⟨#[c]⟩) ∧ cutS t none (some (-1)) ++ ⟨#[c]⟩ ≠ ("" : Str) ∧ (cutS t none (some (-1)) ++ ⟨#[c]⟩).length ≤ t.length := by
  obtain ⟨z1, z2, z3⟩ := bal_lin bt
  have h6 : 6 < t.cps.toList.length := (List.getElem?_eq_some_iff.mp z2).1
  obtain ⟨q, q1, q2⟩ := cut_last (t := t) rfl (by omega)
  have ul : (cutS t none (some (-1)) ++ ⟨#[c]⟩ : Str).cps.toList = (cutS t none (some (-1))).cps.toList ++ [c] := appL _ _
  have hq : q ≠ c := fun z => hne (by rw [q2, List.getLast?_append, z]; rfl)
  refine ⟨fun bu => ?_, fun z => ?_, ?_⟩
  · refine near_set (t := t) (u := cutS t none (some (-1)) ++ ⟨#[c]⟩) (i := (cutS t none (some (-1))).cps.toList.length) (c := c) (x := q) ?_ ?_ (fun z => hq z.symm) hc (hs q q1) hl bt bu
    · rw [ul, q2, List.set_append_right _ _ (Nat.le_refl _), Nat.sub_self]
      rfl
    · rw [q2, List.getElem?_append_right (Nat.le_refl _), Nat.sub_self]
      rfl
  · rw [z] at ul
    have e0 : ("" : Str).cps.toList = [] := by decide
    rw [e0] at ul
    simp at ul
  · rw [lenL, ul, lenL, q2]
    simp
/-! ### what is read -/
structure Rdb (name : Str) (page side : Nat) (s : Str) (r : Option (Nat × Str)) : Prop where
  len : s.length ≤ 3000
  p : F_read_half [.d (.str name), .d (.int page), .d (.int side), .d (.str s)] = .ok (.d (rdD r)) []
  k : F__law_dk_read [.d (.str name), .d (.int page), .d (.int side), .d (.str s)] = .ok (.d (rdD r)) []
  ok : ∀ n q, r = some (n, q) → n < 10 ^ 12 ∧ q.length ≤ 1000 ∧ ∀ c ∈ q.cps.toList, Sg c
theorem rdb_half {name part : Str} {page side n : Nat} (h1 : Nm name) (h2 : page < 10 ^ 14) (h3 : side < 10 ^ 14) (h0 : 0 < n) (hn : n < 10 ^ 12) (h5 : part.length ≤ 1000) (h6 : ∀ c ∈ part.cps.toList, Sg c) : Rdb name page side (halfS name page side n part) (some (n, part)) := by
  have hn14 : n < 10 ^ 14 := Nat.lt_of_lt_of_le hn (by decide)
  have hl := half_len h1 h2 h3 hn14 (part := part)
  refine ⟨by omega, e_read_sound (by have := h1.len; omega) h2 h3 h0 hn (by omega), ?_, fun a b e => ?_⟩
  · rw [e_kread_half h1 h2 h3 h3 h0 hn (by omega), if_pos rfl]
    rfl
  · cases e
    exact ⟨hn, h5, h6⟩
theorem rdb_other {name part : Str} {page side side' n : Nat} (h1 : Nm name) (h2 : page < 10 ^ 14) (h3 : side < 10 ^ 14) (h3' : side' < 10 ^ 14) (h0 : 0 < n) (hn : n < 10 ^ 12) (h5 : part.length ≤ 1000) (ne : side' ≠ side) : Rdb name page side (halfS name page side' n part) none := by
  have hn14 : n < 10 ^ 14 := Nat.lt_of_lt_of_le hn (by decide)
  have hl := half_len h1 h2 h3' hn14 (part := part)
  refine ⟨by omega, e_read_other h1 h1 h2 h2 h3 h3' hn14 (by omega) (fun z => ne z.2.2.symm), ?_, fun a b e => by cases e⟩
  rw [e_kread_half h1 h2 h3 h3' h0 hn (by omega), if_neg ne]
  rfl
theorem rdb_empty (name : Str) (page side : Nat) : Rdb name page side ("" : Str) (some (0, ("" : Str))) := by
  refine ⟨by decide, e_read_empty name page side, e_kread_empty name page side, fun a b e => ?_⟩
  cases e
  exact ⟨by decide, by decide, fun c hc => by
    have e0 : ("" : Str).cps.toList = [] := by decide
    rw [e0] at hc
    cases hc⟩
theorem rdb_off {name t : Str} {page side : Nat} (h1 : Nm name) (h2 : page < 10 ^ 14) (h3 : side < 10 ^ 14) (hl : t.length ≤ 3000) (ht : t ≠ ("" : Str)) (hb : ¬ Bal t) : Rdb name page side t none :=
  ⟨hl, e_read_off (by have := h1.len; omega) h2 h3 (by omega) ht hb, e_kread_off (by have := h1.len; omega) h2 h3 hl ht hb, fun a b e => by cases e⟩
theorem rs_int_nat {n : Nat} (h : n < 10 ^ 12) : Rs (.int n) 0 18 := rs_int (i := (n : Int)) (k := 0) (by omega) (by omega)
theorem rs_sg {x : Str} (h : ∀ c ∈ x.cps.toList, Sg c) {n : Nat} (hl : x.length ≤ n) : Rs (.str x) 0 (10 * n + 2) := (rs_str fun c hc => by have := h c hc; unfold Sg at this; omega).mono (Nat.le_refl _) (by omega)
theorem rs_st {name l r : Str} {page : Nat} {r0 r1 : Option (Nat × Str)} (h0 : Rdb name page 0 l r0) (h1 : Rdb name page 1 r r1) : Rs (stD r0 r1) 5 50000 := by
  have w : ∀ x : Str, (∀ c ∈ x.cps.toList, c < 0x110000) → x.length ≤ 2000 → Rs (.str x) 0 20002 := fun x h hl => (rs_str h).mono (Nat.le_refl _) (by omega)
  have wb : Rs (.str ("bent" : Str)) 0 20002 := w _ (by decide) (by decide)
  have wt : Rs (.str ("torn" : Str)) 0 20002 := w _ (by decide) (by decide)
  have wl : Rs (.str ("blank" : Str)) 0 20002 := w _ (by decide) (by decide)
  have wh : Rs (.str ("whole" : Str)) 0 20002 := w _ (by decide) (by decide)
  have i0 : Rs (.int 0) 0 18 := rs_int (k := 0) (by decide) (by decide)
  have i1 : Rs (.int 1) 0 18 := rs_int (k := 0) (by decide) (by decide)
  rcases r0 with _ | ⟨n, p⟩ <;> rcases r1 with _ | ⟨k, q⟩ <;> unfold stD
  · exact (rs_tuple (rss_cons wb (rss_cons (rs_tuple (rss_cons i0 (rss_cons i1 rss_nil))) rss_nil))).mono (by decide) (by decide)
  · exact (rs_tuple (rss_cons wb (rss_cons (rs_tuple (rss_cons i0 rss_nil)) rss_nil))).mono (by decide) (by decide)
  · exact (rs_tuple (rss_cons wb (rss_cons (rs_tuple (rss_cons i1 rss_nil)) rss_nil))).mono (by decide) (by decide)
  · obtain ⟨n1, p1, p2⟩ := h0.ok n p rfl
    obtain ⟨k1, q1, q2⟩ := h1.ok k q rfl
    dsimp only
    split
    · exact (rs_tuple (rss_cons wt (rss_cons (rs_int_nat n1) (rss_cons (rs_int_nat k1) rss_nil)))).mono (by decide) (by decide)
    · split
      · exact (rs_tuple (rss_cons wl rss_nil)).mono (by decide) (by decide)
      · refine (rs_tuple (rss_cons wh (rss_cons (rs_int_nat n1) (rss_cons (w (p ++ q) ?_ ?_) rss_nil)))).mono (by decide) ?_
        · intro c hc
          rw [appL] at hc
          rcases List.mem_append.mp hc with z | z
          · have := p2 c z; unfold Sg at this; omega
          · have := q2 c z; unfold Sg at this; omega
        · rw [appLen]; omega
        · decide
/-- both judges say the same -/
theorem e_both {name l r : Str} {page : Nat} {r0 r1 : Option (Nat × Str)} (h0 : Rdb name page 0 l r0) (h1 : Rdb name page 1 r r1) :
    F_state_of_halves [.d (.str name), .d (.int page), .d (.str l), .d (.str r)] = .ok (.d (stD r0 r1)) [] ∧ F__law_dk_state [.d (.str name), .d (.int page), .d (.list [.str l, .str r])] = .ok (.d (stD r0 r1)) [] := by
  have hl : ∀ p q, r0.map (·.2) = some p → r1.map (·.2) = some q → p.length + q.length ≤ 16777216 := fun p q e0 e1 => by
    rcases r0 with _ | ⟨n, p0⟩
    · cases e0
    rcases r1 with _ | ⟨k, q0⟩
    · cases e1
    cases e0
    cases e1
    have := (h0.ok _ _ rfl).2.1
    have := (h1.ok _ _ rfl).2.1
    dsimp only
    omega
  exact ⟨e_state h0.p h1.p hl, e_kstate h0.k h1.k hl⟩
end DL.K77
set_option Elab.async false
set_option linter.all false
set_option maxRecDepth 100000
set_option maxHeartbeats 1000000
namespace DL.K77
open PySem PySem.Spec PyProof.Rows L2
/-- each made text is read as told -/
def madeOk (name : Str) (page side : Nat) : Bool := match F__law_k77_made [.d (.str name), .d (.int page), .d (.int side)] with
  | .ok (.d (.list ds)) [] => ds.length ≤ 1000 && ds.all fun d => match d with
    | .tuple [.str t, told] => match F_read_half [.d (.str name), .d (.int page), .d (.int side), .d (.str t)] with
      | .ok (.d r) [] => match gRepr r, gRepr told with
        | some (.str a), some (.str b) => decide (a = b)
        | _, _ => false
      | _ => false
    | _ => false
  | _ => false
theorem made_a00 : madeOk "h.0" 0 0 = true := by decide +kernel
theorem made_a01 : madeOk "h.0" 0 1 = true := by decide +kernel
theorem made_a10 : madeOk "h.0" 1 0 = true := by decide +kernel
theorem made_a11 : madeOk "h.0" 1 1 = true := by decide +kernel
theorem made_a70 : madeOk "h.0" 7 0 = true := by decide +kernel
theorem made_a71 : madeOk "h.0" 7 1 = true := by decide +kernel
theorem made_a90 : madeOk "h.0" 1000000000 0 = true := by decide +kernel
theorem made_a91 : madeOk "h.0" 1000000000 1 = true := by decide +kernel
theorem made_b00 : madeOk "house_a.4" 0 0 = true := by decide +kernel
theorem made_b01 : madeOk "house_a.4" 0 1 = true := by decide +kernel
theorem made_b10 : madeOk "house_a.4" 1 0 = true := by decide +kernel
theorem made_b11 : madeOk "house_a.4" 1 1 = true := by decide +kernel
theorem made_b70 : madeOk "house_a.4" 7 0 = true := by decide +kernel
theorem made_b71 : madeOk "house_a.4" 7 1 = true := by decide +kernel
theorem made_b90 : madeOk "house_a.4" 1000000000 0 = true := by decide +kernel
theorem made_b91 : madeOk "house_a.4" 1000000000 1 = true := by decide +kernel
theorem made_c00 : madeOk "x" 0 0 = true := by decide +kernel
theorem made_c01 : madeOk "x" 0 1 = true := by decide +kernel
theorem made_c10 : madeOk "x" 1 0 = true := by decide +kernel
theorem made_c11 : madeOk "x" 1 1 = true := by decide +kernel
theorem made_c70 : madeOk "x" 7 0 = true := by decide +kernel
theorem made_c71 : madeOk "x" 7 1 = true := by decide +kernel
theorem made_c90 : madeOk "x" 1000000000 0 = true := by decide +kernel
theorem made_c91 : madeOk "x" 1000000000 1 = true := by decide +kernel
theorem made_d00 : madeOk "####################" 0 0 = true := by decide +kernel
theorem made_d01 : madeOk "####################" 0 1 = true := by decide +kernel
theorem made_d10 : madeOk "####################" 1 0 = true := by decide +kernel
theorem made_d11 : madeOk "####################" 1 1 = true := by decide +kernel
theorem made_d70 : madeOk "####################" 7 0 = true := by decide +kernel
theorem made_d71 : madeOk "####################" 7 1 = true := by decide +kernel
theorem made_d90 : madeOk "####################" 1000000000 0 = true := by decide +kernel
theorem made_d91 : madeOk "####################" 1000000000 1 = true := by decide +kernel
end DL.K77
set_option Elab.async false
set_option linter.all false
set_option maxRecDepth 100000
set_option maxHeartbeats 2000000
namespace DL.K77
open PySem PySem.Spec PyProof.Rows L2
local macro_rules | `(tactic| fail "run") => `(tactic| (apply fw_run; (focus rfl); (focus ((try simp only [List.map_cons, List.map_nil, List.length_cons, List.length_nil, Nat.reduceAdd, Nat.reduceSub, List.reduceReplicate, List.cons_append, List.nil_append, List.replicate_zero]); exact rfl))))
local macro_rules | `(tactic| fail "env") => `(tactic| (first | (dsimp only [List.set, putE, clrE, slotsOf, wipeE, gN, gT, gCons, gNil]; done) | (dsimp only [List.set, putE, clrE, slotsOf, wipeE, gN, gT, gCons, gNil]; exact rfl) | exact rfl))
local macro_rules | `(tactic| fail "side") => `(tactic| first | with_reducible assumption | exact Nat.le_of_ble_eq_true rfl | decide | omega)
local macro_rules | `(tactic| fail "ms") => `(tactic| repeat (first | with_reducible exact argMs_nil | with_reducible exact argD_nil | with_reducible apply argMs_d | with_reducible apply argD_d | ((with_reducible apply argMs_s); (focus rfl))))
local macro_rules | `(tactic| fail "lf") => `(tactic| ((with_reducible refine lf_id ?_); (first
  | with_reducible refine lf_bD ?_
  | ((with_reducible apply lf_ix); (focus rfl))
  | with_reducible refine lf qEq_s ?_
  | with_reducible refine lf qEq_i ?_
  | with_reducible refine lf qNe_s ?_
  | with_reducible refine lf qNe_i ?_
  | with_reducible refine lf qAdd_i ?_
  | with_reducible refine lf qSub ?_
  | with_reducible refine lf qLt ?_
  | with_reducible refine lf qLe ?_
  | with_reducible refine lf qGt ?_
  | with_reducible refine lf qGe ?_
  | with_reducible refine lf qG2 ?_
  | with_reducible refine lf qNeg ?_
  | with_reducible refine lf qLen_l ?_
  | with_reducible refine lf qLen_t ?_
  | with_reducible refine lf qIs ?_
  | with_reducible refine lf qIsNot ?_
  | with_reducible refine lf qTup_l ?_
  | with_reducible refine lf qTup_t ?_
  | with_reducible refine lf qItD ?_
  | with_reducible refine lf qItT ?_
  | with_reducible refine lf qItS ?_
  | with_reducible refine lf qEnum_l ?_
  | with_reducible refine lf qEnum_s ?_
  | with_reducible refine lf qSl_l ?_
  | ((with_reducible refine lf (qAdd_s ?k1) ?_); (case k1 => fail "side"))
  | ((with_reducible refine lf (qAdd_l ?k1) ?_); (case k1 => fail "side"))
  | ((with_reducible refine lf (qSl_s ?k1) ?_); (case k1 => fail "side"))
  | ((with_reducible refine lf (qLen_s ?k1) ?_); (case k1 => fail "side"))
  | ((with_reducible refine lf (qDiv ?k1) ?_); (case k1 => fail "side"))
  | ((with_reducible refine lf (qMod ?k1) ?_); (case k1 => fail "side"))
  | ((with_reducible refine lf (qMul ?k1) ?_); (case k1 => fail "side"))
  | ((with_reducible refine lf (qMulA_i (qMul ?k1)) ?_); (case k1 => fail "side"))
  | ((with_reducible refine lf (qNe_t ?k1 ?k2) ?_); (case k1 => first | assumption | rfl); (case k2 => first | assumption | rfl))
  | ((with_reducible refine lf (qEq_t ?k1 ?k2) ?_); (case k1 => first | assumption | rfl); (case k2 => first | assumption | rfl))
  | ((with_reducible refine lf (qNe_l ?k1 ?k2) ?_); (case k1 => first | assumption | rfl); (case k2 => first | assumption | rfl))
  | ((with_reducible refine lf (qEq_l ?k1 ?k2) ?_); (case k1 => first | assumption | rfl); (case k2 => first | assumption | rfl))
  | ((with_reducible refine lf (qRng1 ?k1) ?_); (case k1 => fail "side")))))
local macro_rules | `(tactic| fail "way") => `(tactic| ((with_reducible refine way_id ?_); (first
  | with_reducible refine way_not ?_
  | ((with_reducible refine way_dt ?_ ?_); (focus first | with_reducible rfl | with_reducible assumption | decide | omega))
  | ((with_reducible refine way_df ?_ ?_); (focus first | with_reducible assumption | decide | omega))
  | with_reducible refine way_nonT ?_
  | with_reducible refine way_nonI ?_
  | with_reducible refine way_nonS ?_
  | with_reducible refine way_nonU ?_
  | with_reducible refine way_nonL ?_
  | with_reducible refine way_nonB ?_
  | ((with_reducible refine way_t ?_ ?_); (focus rfl))
  | ((with_reducible refine way_f ?_ ?_); (focus rfl)))))
local macro_rules | `(tactic| fail "wp") => `(tactic| first
  | ((with_reducible refine wp_idD ?_); (first
    | ((with_reducible apply wp_var); (focus rfl))
    | with_reducible refine wp_c ?_
    | with_reducible refine wp_f2 ?_
    | with_reducible refine wp_f1 ?_
    | with_reducible refine wp_frz ?_
    | with_reducible refine wp_tup ?_
    | with_reducible refine wp_lst ?_
    | with_reducible refine wp_if ?_
    | with_reducible refine wp_f2S ?_
    | with_reducible refine wp_f1S ?_
    | with_reducible refine wp_sl ?_
    | with_reducible refine wp_ob ?_
    | with_reducible refine wp_fArgs ?_
    | with_reducible refine wp_joined ?_
    | with_reducible refine wp_andV ?_))
  | ((with_reducible refine wp_idA ?_); (first
    | with_reducible refine wp_consA ?_
    | with_reducible refine wp_nilA ?_
    | ((with_reducible apply wp_slotA); (focus rfl))))
  | ((with_reducible refine wp_idF ?_); (first
    | ((with_reducible refine wp_seqG ?_); intro G hG)
    | ((with_reducible apply wp_then_nxG); (focus with_reducible assumption); (focus fail "env"))
    | with_reducible refine wp_if ?_
    | with_reducible refine wp_setV ?_
    | with_reducible refine wp_ret ?_
    | with_reducible refine wp_nx ?_
    | with_reducible refine wp_then_rt ?_
    | with_reducible refine wp_setM ?_
    | with_reducible refine wp_drop ?_
    | ((with_reducible apply wp_still); (focus rfl))
    | with_reducible refine wp_par ?_
    | with_reducible refine wp_parMV ?_
    | with_reducible refine wp_asg ?_
    | with_reducible refine wp_for ?_
    | ((with_reducible apply wp_cont_nx); (focus fail "env"))
    | ((with_reducible apply wp_cont_ct); (focus fail "env"))
    | ((with_reducible apply wp_cont_bk); (focus fail "env"))
    | with_reducible refine wp_cont_rt ?_
    | with_reducible refine wp_forL_nil ?_))
  | ((with_reducible refine wp_idB ?_); (first
    | with_reducible refine wp_fB ?_
    | with_reducible refine wp_or ?_
    | with_reducible refine wp_and ?_
    | with_reducible refine wp_not ?_
    | with_reducible refine wp_yes ?_
    | with_reducible refine wp_tru ?_
    | with_reducible refine wp_if ?_))
  | ((with_reducible refine wp_idM ?_); (first
    | with_reducible refine wp_up ?_
    | with_reducible refine wp_call ?_
    | with_reducible refine wp_lc ?_
    | with_reducible refine wp_lstM ?_
    | with_reducible refine wp_callK ?_
    | with_reducible refine wp_call0 ?_
    | with_reducible refine wp_if ?_))
  | ((with_reducible refine wp_id ?_); (first
    | with_reducible refine wp_it ?_
    | with_reducible refine wp_itA ?_
    | with_reducible refine wp_noPart ?_
    | with_reducible refine wp_part ?_
    | with_reducible refine wp_j0 ?_
    | with_reducible refine wp_j ?_
    | ((with_reducible refine wp_lcL_cons ?_ ?_); (focus exact Nat.le_of_ble_eq_true rfl))
    | with_reducible refine wp_lcL_nil ?_)))
local macro_rules | `(tactic| fail "s1") => `(tactic| first
  | fail "wp"
  | fail "lf"
  | fail "way"
  | with_reducible refine wp_isS ?_
  | with_reducible refine wp_isI ?_
  | with_reducible refine wp_isB ?_
  | ((with_reducible apply frz_go); (focus first | with_reducible exact frz_dd | with_reducible exact frz_mds _))
  | ((with_reducible apply eq_go); (focus fail "env"))
  | ((with_reducible apply dis_go); (focus fail "ms"); (focus exact Nat.le_of_ble_eq_true rfl))
  | ((with_reducible apply arg_go); (focus first | exact List.nodup_nil | exact List.nodup_singleton _ | simp [slotsOf]); (focus rfl); (focus fail "ms"))
  | ((with_reducible apply argk_go); (focus rfl); (focus repeat (first | with_reducible exact mapk_nil | ((with_reducible apply mapk_cons); (focus rfl)))); (focus first | exact List.nodup_nil | exact List.nodup_singleton _ | simp [slotsOf]); (focus rfl); (focus fail "ms"))
  | with_reducible refine par_go ?_
  | ((with_reducible apply ret_go); (focus rfl))
  | ((with_reducible apply ret_nx); (focus rfl))
  | ((with_reducible apply lt_go); (focus fail "env")))
local macro_rules | `(tactic| fail "go") => `(tactic| repeat fail "s1")
local macro_rules | `(tactic| fail "un") => `(tactic| ((with_reducible apply wp_forL_cons); (focus fail "env")))
theorem made_get {name : Str} {page side : Nat} (h : madeOk name page side = true) : ∃ ds, F__law_k77_made [.d (.str name), .d (.int page), .d (.int side)] = .ok (.d (.list ds)) [] ∧ ds.length ≤ 1000 ∧
    ∀ d ∈ ds, ∃ t told r a, d = .tuple [.str t, told] ∧ F_read_half [.d (.str name), .d (.int page), .d (.int side), .d (.str t)] = .ok (.d r) [] ∧ gRepr r = some (.str a) ∧ gRepr told = some (.str a) := by
  unfold madeOk at h
  split at h
  · rename_i ds e
    rw [Bool.and_eq_true, List.all_eq_true] at h
    refine ⟨ds, e, of_decide_eq_true h.1, fun d hd => ?_⟩
    have k := h.2 d hd
    split at k
    · rename_i t told
      split at k
      · rename_i r e2
        split at k
        · rename_i a b e3 e4
          have := of_decide_eq_true k
          subst this
          exact ⟨t, told, r, a, rfl, e2, e3, e4⟩
        · cases k
      · cases k
    · cases k
  · cases h
theorem nil_map (ds : List D) : ds.filterMap (fun _ => (none : Option D)) = [] := by
  induction ds with
  | nil => rfl
  | cons d ds ih => rw [List.filterMap_cons]; exact ih
theorem rs_empty : Rs (.str ("" : Str)) 0 2 := (rs_str (by decide)).mono (by decide) (by decide)
theorem nm_y : Nm ("y" : Str) := ⟨by decide, by decide⟩
theorem e_side {m : M} {b : Nat} {name body : Str} {page number side : Nat} (hF : Fit b m) (hb : b < 800000000000) (h1 : Nm name) (hy : name ≠ ("y" : Str)) (h2 : page < 10 ^ 10) (h0 : 0 < number) (hn : number < 10 ^ 10) (h5 : body.length ≤ 300) (h6 : ∀ c ∈ body.cps.toList, Sg c)
    (hs : side = 0 ∨ side = 1) (hm : madeOk name page side = true) :
    Fw (F__law_k77_side [m, .d (.str name), .d (.int page), .d (.int number), .d (.str body), .d (.int side)]) fun r os => r = .d (.bool true) ∧ ∃ m', os = [m'] ∧ Fit (b + 4000) m' := by
  have h14 : page < 10 ^ 14 := by omega
  have n14 : number < 10 ^ 14 := by omega
  have n12 : number < 10 ^ 12 := by omega
  have hl := h1.len
  unfold F__law_k77_side
  fail "run"
  unfold d__law_k77_side
  fail "go"
  refine fw_of (e_dk_both (by omega) h14 n14 (by omega)) ?_
  have hmid : (body.length : Int) - body.length / 2 = (mid body : Nat) := by unfold mid; omega
  have cut_sub : ∀ {lo hi : Option Int} {c : Nat}, c ∈ (cutS body lo hi).cps.toList → c ∈ body.cps.toList := fun h => by
    rw [cutL] at h
    exact List.mem_of_mem_drop (List.mem_of_mem_take h)
  rcases hs with rfl | rfl
  · have hL : (b0 body).length ≤ 300 := Nat.le_trans (cut_len _ _ _) h5
    have hG : ∀ c ∈ (b0 body).cps.toList, Sg c := fun c hc => h6 c (cut_sub hc)
    have hb1 := half_bal name (b0 body) page 0 number
    have hlen := half_len h1 h14 (side := 0) (by decide) n14 (part := b0 body)
    fail "go"
    rw [hmid]
    rw [show cutS body none (some ((mid body : Nat) : Int)) = b0 body from rfl]
    have hht := e_half_text (name := name) (part := b0 body) (page := page) (side := 0) (number := number) (by omega) h14 (by decide) n14 (by omega)
    refine fw_of hht ?_
    fail "go"
    refine fw_of hht ?_
    fail "go"
    refine fw_of (e_read_sound (by omega) h14 (by decide) h0 n12 (by omega)) ?_
    fail "go"
    refine fw_of (e_read_empty name page 0) ?_
    fail "go"
    have hR : Rs (.list [.tuple [.int number, .str (b0 body)], .tuple [.int 0, .str ("" : Str)]]) 2 4000 :=
      (rs_list (rss_cons (rs_tuple (rss_cons (rs_int_nat n12) (rss_cons (rs_sg hG hL) rss_nil))) (rss_cons (rs_tuple (rss_cons (rs_int (k := 0) (by decide) (by decide)) (rss_cons rs_empty rss_nil))) rss_nil))).mono (by decide) (by decide)
    refine lf (qRepr hR (by decide) (by decide)) ?_
    fail "go"
    refine lf (qRepr hR (by decide) (by decide)) ?_
    fail "go"
    refine fw_of (e_read_other nm_y h1 h14 h14 (by decide) (by decide) n14 (by omega) (fun z => hy z.1.symm)) ?_
    fail "go"
    rw [show (page : Int) + 1 = ((page + 1 : Nat) : Int) from rfl]
    refine fw_of (e_read_other h1 h1 (by omega) h14 (by decide) (by decide) n14 (by omega) (fun z => by have := z.2.1; omega)) ?_
    fail "go"
    rw [show (1 : Int) - ((0 : Nat) : Int) = ((1 : Nat) : Int) from rfl]
    refine fw_of (e_read_other h1 h1 h14 h14 (by decide) (by decide) n14 (by omega) (fun z => by have := z.2.2; omega)) ?_
    fail "go"
    obtain ⟨m', ds, f1, f2, f3, f4⟩ := e_near hF hb (half_signs h1 hG) (by omega) hb1
    refine fw_of f1 ?_
    fail "go"
    refine wp_lcL_map (fun _ => none) (by omega) (fun d hd => ?_) ?_
    · obtain ⟨u, rfl, u1, u2, u3⟩ := f4 d hd
      fail "go"
      refine fw_of (e_read_off (by omega) h14 (by decide) (by omega) u1 u2) ?_
      fail "go"
      exact ⟨rfl, rfl⟩
    rw [nil_map]
    fail "go"
    obtain ⟨ms, g1, g2, g3⟩ := made_get hm
    refine fw_of g1 ?_
    fail "go"
    refine wp_lcL_map (fun _ => none) (by omega) (fun d hd => ?_) ?_
    · obtain ⟨t, told, r, a, rfl, k1, k2, k3⟩ := g3 d hd
      fail "go"
      refine fw_of k1 ?_
      fail "go"
      refine lf k2 ?_
      fail "go"
      refine lf k3 ?_
      fail "go"
      exact ⟨rfl, rfl⟩
    rw [nil_map]
    fail "go"
    exact ⟨rfl, m', rfl, f2⟩
  · have hL : (b1 body).length ≤ 300 := Nat.le_trans (cut_len _ _ _) h5
    have hG : ∀ c ∈ (b1 body).cps.toList, Sg c := fun c hc => h6 c (cut_sub hc)
    have hb1 := half_bal name (b1 body) page 1 number
    have hlen := half_len h1 h14 (side := 1) (by decide) n14 (part := b1 body)
    fail "go"
    rw [hmid]
    rw [show cutS body (some ((mid body : Nat) : Int)) none = b1 body from rfl]
    have hht := e_half_text (name := name) (part := b1 body) (page := page) (side := 1) (number := number) (by omega) h14 (by decide) n14 (by omega)
    refine fw_of hht ?_
    fail "go"
    refine fw_of hht ?_
    fail "go"
    refine fw_of (e_read_sound (by omega) h14 (by decide) h0 n12 (by omega)) ?_
    fail "go"
    refine fw_of (e_read_empty name page 1) ?_
    fail "go"
    have hR : Rs (.list [.tuple [.int number, .str (b1 body)], .tuple [.int 0, .str ("" : Str)]]) 2 4000 :=
      (rs_list (rss_cons (rs_tuple (rss_cons (rs_int_nat n12) (rss_cons (rs_sg hG hL) rss_nil))) (rss_cons (rs_tuple (rss_cons (rs_int (k := 0) (by decide) (by decide)) (rss_cons rs_empty rss_nil))) rss_nil))).mono (by decide) (by decide)
    refine lf (qRepr hR (by decide) (by decide)) ?_
    fail "go"
    refine lf (qRepr hR (by decide) (by decide)) ?_
    fail "go"
    refine fw_of (e_read_other nm_y h1 h14 h14 (by decide) (by decide) n14 (by omega) (fun z => hy z.1.symm)) ?_
    fail "go"
    rw [show (page : Int) + 1 = ((page + 1 : Nat) : Int) from rfl]
    refine fw_of (e_read_other h1 h1 (by omega) h14 (by decide) (by decide) n14 (by omega) (fun z => by have := z.2.1; omega)) ?_
    fail "go"
    rw [show (1 : Int) - ((1 : Nat) : Int) = ((0 : Nat) : Int) from rfl]
    refine fw_of (e_read_other h1 h1 h14 h14 (by decide) (by decide) n14 (by omega) (fun z => by have := z.2.2; omega)) ?_
    fail "go"
    obtain ⟨m', ds, f1, f2, f3, f4⟩ := e_near hF hb (half_signs h1 hG) (by omega) hb1
    refine fw_of f1 ?_
    fail "go"
    refine wp_lcL_map (fun _ => none) (by omega) (fun d hd => ?_) ?_
    · obtain ⟨u, rfl, u1, u2, u3⟩ := f4 d hd
      fail "go"
      refine fw_of (e_read_off (by omega) h14 (by decide) (by omega) u1 u2) ?_
      fail "go"
      exact ⟨rfl, rfl⟩
    rw [nil_map]
    fail "go"
    obtain ⟨ms, g1, g2, g3⟩ := made_get hm
    refine fw_of g1 ?_
    fail "go"
    refine wp_lcL_map (fun _ => none) (by omega) (fun d hd => ?_) ?_
    · obtain ⟨t, told, r, a, rfl, k1, k2, k3⟩ := g3 d hd
      fail "go"
      refine fw_of k1 ?_
      fail "go"
      refine lf k2 ?_
      fail "go"
      refine lf k3 ?_
      fail "go"
      exact ⟨rfl, rfl⟩
    rw [nil_map]
    fail "go"
    exact ⟨rfl, m', rfl, f2⟩
end DL.K77
set_option Elab.async false
set_option linter.all false
set_option maxRecDepth 100000
set_option maxHeartbeats 0
namespace DL.K77
open PySem PySem.Spec PyProof.Rows L2
local macro_rules | `(tactic| fail "run") => `(tactic| (apply fw_run; (focus rfl); (focus ((try simp only [List.map_cons, List.map_nil, List.length_cons, List.length_nil, Nat.reduceAdd, Nat.reduceSub, List.reduceReplicate, List.cons_append, List.nil_append, List.replicate_zero]); exact rfl))))
local macro_rules | `(tactic| fail "env") => `(tactic| (first | (dsimp only [List.set, putE, clrE, slotsOf, wipeE, gN, gT, gCons, gNil]; done) | (dsimp only [List.set, putE, clrE, slotsOf, wipeE, gN, gT, gCons, gNil]; exact rfl) | exact rfl))
local macro_rules | `(tactic| fail "side") => `(tactic| first | with_reducible assumption | exact Nat.le_of_ble_eq_true rfl | decide | omega)
local macro_rules | `(tactic| fail "ms") => `(tactic| repeat (first | with_reducible exact argMs_nil | with_reducible exact argD_nil | with_reducible apply argMs_d | with_reducible apply argD_d | ((with_reducible apply argMs_s); (focus rfl))))
local macro_rules | `(tactic| fail "lf") => `(tactic| ((with_reducible refine lf_id ?_); (first
  | with_reducible refine lf_bD ?_
  | ((with_reducible apply lf_ix); (focus rfl))
  | with_reducible refine lf qEq_s ?_
  | with_reducible refine lf qEq_i ?_
  | with_reducible refine lf qNe_s ?_
  | with_reducible refine lf qNe_i ?_
  | with_reducible refine lf qAdd_i ?_
  | with_reducible refine lf qSub ?_
  | with_reducible refine lf qLt ?_
  | with_reducible refine lf qLe ?_
  | with_reducible refine lf qGt ?_
  | with_reducible refine lf qGe ?_
  | with_reducible refine lf qG2 ?_
  | with_reducible refine lf qNeg ?_
  | with_reducible refine lf qLen_l ?_
  | with_reducible refine lf qLen_t ?_
  | with_reducible refine lf qIs ?_
  | with_reducible refine lf qIsNot ?_
  | with_reducible refine lf qTup_l ?_
  | with_reducible refine lf qTup_t ?_
  | with_reducible refine lf qItD ?_
  | with_reducible refine lf qItT ?_
  | with_reducible refine lf qItS ?_
  | with_reducible refine lf qEnum_l ?_
  | with_reducible refine lf qEnum_s ?_
  | with_reducible refine lf qSl_l ?_
  | ((with_reducible refine lf (qAdd_s ?k1) ?_); (case k1 => fail "side"))
  | ((with_reducible refine lf (qAdd_l ?k1) ?_); (case k1 => fail "side"))
  | ((with_reducible refine lf (qSl_s ?k1) ?_); (case k1 => fail "side"))
  | ((with_reducible refine lf (qLen_s ?k1) ?_); (case k1 => fail "side"))
  | ((with_reducible refine lf (qDiv ?k1) ?_); (case k1 => fail "side"))
  | ((with_reducible refine lf (qMod ?k1) ?_); (case k1 => fail "side"))
  | ((with_reducible refine lf (qMul ?k1) ?_); (case k1 => fail "side"))
  | ((with_reducible refine lf (qMulA_i (qMul ?k1)) ?_); (case k1 => fail "side"))
  | ((with_reducible refine lf (qNe_t ?k1 ?k2) ?_); (case k1 => first | assumption | rfl); (case k2 => first | assumption | rfl))
  | ((with_reducible refine lf (qEq_t ?k1 ?k2) ?_); (case k1 => first | assumption | rfl); (case k2 => first | assumption | rfl))
  | ((with_reducible refine lf (qNe_l ?k1 ?k2) ?_); (case k1 => first | assumption | rfl); (case k2 => first | assumption | rfl))
  | ((with_reducible refine lf (qEq_l ?k1 ?k2) ?_); (case k1 => first | assumption | rfl); (case k2 => first | assumption | rfl))
  | ((with_reducible refine lf (qRng1 ?k1) ?_); (case k1 => fail "side")))))
local macro_rules | `(tactic| fail "way") => `(tactic| ((with_reducible refine way_id ?_); (first
  | with_reducible refine way_not ?_
  | ((with_reducible refine way_dt ?_ ?_); (focus first | with_reducible rfl | with_reducible assumption | decide | omega))
  | ((with_reducible refine way_df ?_ ?_); (focus first | with_reducible assumption | decide | omega))
  | with_reducible refine way_nonT ?_
  | with_reducible refine way_nonI ?_
  | with_reducible refine way_nonS ?_
  | with_reducible refine way_nonU ?_
  | with_reducible refine way_nonL ?_
  | with_reducible refine way_nonB ?_
  | ((with_reducible refine way_t ?_ ?_); (focus rfl))
  | ((with_reducible refine way_f ?_ ?_); (focus rfl)))))
local macro_rules | `(tactic| fail "wp") => `(tactic| first
  | ((with_reducible refine wp_idD ?_); (first
    | ((with_reducible apply wp_var); (focus rfl))
    | with_reducible refine wp_c ?_
    | with_reducible refine wp_f2 ?_
    | with_reducible refine wp_f1 ?_
    | with_reducible refine wp_frz ?_
    | with_reducible refine wp_tup ?_
    | with_reducible refine wp_lst ?_
    | with_reducible refine wp_if ?_
    | with_reducible refine wp_f2S ?_
    | with_reducible refine wp_f1S ?_
    | with_reducible refine wp_sl ?_
    | with_reducible refine wp_ob ?_
    | with_reducible refine wp_fArgs ?_
    | with_reducible refine wp_joined ?_
    | with_reducible refine wp_andV ?_))
  | ((with_reducible refine wp_idA ?_); (first
    | with_reducible refine wp_consA ?_
    | with_reducible refine wp_nilA ?_
    | ((with_reducible apply wp_slotA); (focus rfl))))
  | ((with_reducible refine wp_idF ?_); (first
    | ((with_reducible refine wp_seqG ?_); intro G hG)
    | ((with_reducible apply wp_then_nxG); (focus with_reducible assumption); (focus fail "env"))
    | with_reducible refine wp_if ?_
    | with_reducible refine wp_setV ?_
    | with_reducible refine wp_ret ?_
    | with_reducible refine wp_nx ?_
    | with_reducible refine wp_then_rt ?_
    | with_reducible refine wp_setM ?_
    | with_reducible refine wp_drop ?_
    | ((with_reducible apply wp_still); (focus rfl))
    | with_reducible refine wp_par ?_
    | with_reducible refine wp_parMV ?_
    | with_reducible refine wp_asg ?_
    | with_reducible refine wp_for ?_
    | ((with_reducible apply wp_cont_nx); (focus fail "env"))
    | ((with_reducible apply wp_cont_ct); (focus fail "env"))
    | ((with_reducible apply wp_cont_bk); (focus fail "env"))
    | with_reducible refine wp_cont_rt ?_
    | with_reducible refine wp_forL_nil ?_))
  | ((with_reducible refine wp_idB ?_); (first
    | with_reducible refine wp_fB ?_
    | with_reducible refine wp_or ?_
    | with_reducible refine wp_and ?_
    | with_reducible refine wp_not ?_
    | with_reducible refine wp_yes ?_
    | with_reducible refine wp_tru ?_
    | with_reducible refine wp_if ?_))
  | ((with_reducible refine wp_idM ?_); (first
    | with_reducible refine wp_up ?_
    | with_reducible refine wp_call ?_
    | with_reducible refine wp_lc ?_
    | with_reducible refine wp_lstM ?_
    | with_reducible refine wp_callK ?_
    | with_reducible refine wp_call0 ?_
    | with_reducible refine wp_if ?_))
  | ((with_reducible refine wp_id ?_); (first
    | with_reducible refine wp_it ?_
    | with_reducible refine wp_itA ?_
    | with_reducible refine wp_noPart ?_
    | with_reducible refine wp_part ?_
    | with_reducible refine wp_j0 ?_
    | with_reducible refine wp_j ?_
    | ((with_reducible refine wp_lcL_cons ?_ ?_); (focus exact Nat.le_of_ble_eq_true rfl))
    | with_reducible refine wp_lcL_nil ?_)))
local macro_rules | `(tactic| fail "s1") => `(tactic| first
  | fail "wp"
  | fail "lf"
  | fail "way"
  | with_reducible refine wp_isS ?_
  | with_reducible refine wp_isI ?_
  | with_reducible refine wp_isB ?_
  | ((with_reducible apply frz_go); (focus first | with_reducible exact frz_dd | with_reducible exact frz_mds _))
  | ((with_reducible apply eq_go); (focus fail "env"))
  | ((with_reducible apply dis_go); (focus fail "ms"); (focus exact Nat.le_of_ble_eq_true rfl))
  | ((with_reducible apply arg_go); (focus first | exact List.nodup_nil | exact List.nodup_singleton _ | simp [slotsOf]); (focus rfl); (focus fail "ms"))
  | ((with_reducible apply argk_go); (focus rfl); (focus repeat (first | with_reducible exact mapk_nil | ((with_reducible apply mapk_cons); (focus rfl)))); (focus first | exact List.nodup_nil | exact List.nodup_singleton _ | simp [slotsOf]); (focus rfl); (focus fail "ms"))
  | with_reducible refine par_go ?_
  | ((with_reducible apply ret_go); (focus rfl))
  | ((with_reducible apply ret_nx); (focus rfl))
  | ((with_reducible apply lt_go); (focus fail "env")))
local macro_rules | `(tactic| fail "go") => `(tactic| repeat fail "s1")
local macro_rules | `(tactic| fail "un") => `(tactic| ((with_reducible apply wp_forL_cons); (focus fail "env")))
theorem way_xy {q : Nat} {e : Env} {Q : D → Env → Prop} (h : ∀ c, Sg c → q ≠ c → Q (.str ⟨#[c]⟩) e) : Way (decide ((⟨#[q]⟩ : Str) = ("x" : Str))) (Wp (fC (.str ("y" : Str)) e) Q) (Wp (fC (.str ("x" : Str)) e) Q) := by
  refine way_dec (fun z => ?_) (fun z => ?_)
  · refine wp_c ?_
    rw [show ("y" : Str) = ⟨#[121]⟩ by decide]
    refine h 121 (by unfold Sg; omega) fun e => ?_
    subst e
    revert z
    decide
  · refine wp_c ?_
    rw [show ("x" : Str) = ⟨#[120]⟩ by decide]
    refine h 120 (by unfold Sg; omega) fun e => ?_
    subst e
    exact z (by decide)
/-- the last sign -/
theorem last_at {t : Str} (h : 0 < t.cps.toList.length) (hl : t.length ≤ 3000) : ∃ q, t.cps.toList.getLast? = some q ∧ gIx (.str t) (.int (-1)) = some (sign1 q) := by
  obtain ⟨q, _, q2⟩ := cut_last (t := t) rfl h
  refine ⟨q, by rw [q2, List.getLast?_append]; rfl, ?_⟩
  unfold gIx
  dsimp only
  rw [if_pos (by rw [sizeLine_eq]; omega)]
  have : atI t.cps.toList (-1) = some q := by
    rw [q2]
    have e1 : ixN ((cutS t none (some (-1))).cps.toList ++ [q]).length (-1) = some (cutS t none (some (-1))).cps.toList.length := by
      unfold ixN
      simp
      omega
    unfold atI
    rw [e1]
    simp
  rw [this]
  rfl
theorem names_ok {d : D} (h : d ∈ [PyData.str ("h.0" : Str), .str ("house_a.4" : Str), .str ("x" : Str), .str ("####################" : Str)]) : ∃ name, d = .str name ∧ Nm name ∧ name ≠ ("y" : Str) ∧
    ∀ page ∈ ([0, 1, 7, 1000000000] : List Nat), madeOk name page 0 = true ∧ madeOk name page 1 = true := by
  simp only [List.mem_cons, List.not_mem_nil, or_false] at h
  rcases h with rfl | rfl | rfl | rfl
  · refine ⟨_, rfl, ⟨by decide, by decide⟩, by decide, ?_⟩
    simp only [List.mem_cons, List.not_mem_nil, or_false]
    rintro page (rfl | rfl | rfl | rfl)
    · exact ⟨made_a00, made_a01⟩
    · exact ⟨made_a10, made_a11⟩
    · exact ⟨made_a70, made_a71⟩
    · exact ⟨made_a90, made_a91⟩
  · refine ⟨_, rfl, ⟨by decide, by decide⟩, by decide, ?_⟩
    simp only [List.mem_cons, List.not_mem_nil, or_false]
    rintro page (rfl | rfl | rfl | rfl)
    · exact ⟨made_b00, made_b01⟩
    · exact ⟨made_b10, made_b11⟩
    · exact ⟨made_b70, made_b71⟩
    · exact ⟨made_b90, made_b91⟩
  · refine ⟨_, rfl, ⟨by decide, by decide⟩, by decide, ?_⟩
    simp only [List.mem_cons, List.not_mem_nil, or_false]
    rintro page (rfl | rfl | rfl | rfl)
    · exact ⟨made_c00, made_c01⟩
    · exact ⟨made_c10, made_c11⟩
    · exact ⟨made_c70, made_c71⟩
    · exact ⟨made_c90, made_c91⟩
  · refine ⟨_, rfl, ⟨by decide, by decide⟩, by decide, ?_⟩
    simp only [List.mem_cons, List.not_mem_nil, or_false]
    rintro page (rfl | rfl | rfl | rfl)
    · exact ⟨made_d00, made_d01⟩
    · exact ⟨made_d10, made_d11⟩
    · exact ⟨made_d70, made_d71⟩
    · exact ⟨made_d90, made_d91⟩
theorem nat_of {d : D} {l : List Nat} (h : d ∈ l.map fun n : Nat => PyData.int n) : ∃ n ∈ l, d = .int (n : Nat) := by
  obtain ⟨n, h1, h2⟩ := List.mem_map.mp h
  exact ⟨n, h1, h2.symm⟩
theorem e_law (ns : List Int) (h : ns.length ≤ 63) : F_law [.d (.list (ns.map .int))] = .ok (.d (.bool true)) [] := by
  obtain ⟨m, h1, h2⟩ := e_begun ns h
  have hF : Fit 0 m := by
    obtain ⟨g, c, l, t, e, a1, a2, a3, a4, a5⟩ := h2.ex
    exact ⟨g, c, l, t, e, a1, a2, a3, a4, a5⟩
  apply fw_eq
  unfold F_law
  fail "run"
  unfold d_law
  fail "go"
  refine fw_of h1 ?_
  fail "go"
  obtain ⟨k, k1, k2⟩ : ∃ k : Nat, k ≤ 9 ∧ (3 + (if (6 : Int) < ((ns.map PyData.int).length : Nat) then (6 : Int) else ((ns.map PyData.int).length : Nat)) : Int) = (k : Nat) := by
    by_cases hc : (6 : Int) < ((ns.map PyData.int).length : Nat)
    · rw [if_pos hc]
      exact ⟨9, by omega, rfl⟩
    · rw [if_neg hc]
      exact ⟨3 + (ns.map PyData.int).length, by omega, by omega⟩
  rw [k2]
  fail "go"
  refine wp_forL (fun r e => ∃ (m : M) (b : Nat) (q2 q3 q4 q5 q6 q7 q8 q9 q10 q11 q12 q13 q14 : Option M), e = [some (.d (.list (ns.map .int))), some m, q2, q3, q4, q5, q6, q7, q8, q9, q10, q11, q12, q13, q14] ∧ Fit b m ∧ b + 50000 * r.length ≤ 1000000)
    ?_ ?_ _ _ ⟨m, 0, _, _, _, _, _, _, _, _, _, _, _, _, _, rfl, hF, by unfold rngL; rw [List.length_map, List.length_range]; omega⟩
  · clear h1 h2 hF k2
    rintro d r e ⟨m, b, q2, q3, q4, q5, q6, q7, q8, q9, q10, q11, q12, q13, q14, rfl, hF, hb⟩
    rw [List.length_cons] at hb
    apply tgt_go
    · fail "env"
    fail "go"
    refine lf (show gMulA (.str ("#" : Str)) (.int 20) = some (.str ("####################" : Str)) by
      rw [qMulA_s (by decide)]
      congr 1) ?_
    fail "go"
    obtain ⟨d1, m1, e1, r1, F1⟩ := e_pick hF (by omega) [.str ("h.0" : Str), .str ("house_a.4" : Str), .str ("x" : Str), .str ("####################" : Str)] (by simp) (by decide)
    refine fw_of e1 ?_
    obtain ⟨name, rfl, n1, n2, n3⟩ := names_ok r1
    fail "go"
    refine lf (show gPow (.int 10) (.int 9) = some (.int ((1000000000 : Nat) : Int)) from rfl) ?_
    fail "go"
    obtain ⟨d2, m2, e2, r2, F2⟩ := e_pick F1 (by omega) ([0, 1, 7, 1000000000].map fun n : Nat => PyData.int n) (by simp) (by decide)
    refine fw_of e2 ?_
    obtain ⟨page, p1, rfl⟩ := nat_of r2
    obtain ⟨md0, md1⟩ := n3 page p1
    have p2 : page < 10 ^ 10 := by
      simp only [List.mem_cons, List.not_mem_nil, or_false] at p1
      omega
    fail "go"
    refine lf (show gPow (.int 10) (.int 9) = some (.int ((1000000000 : Nat) : Int)) from rfl) ?_
    fail "go"
    obtain ⟨d3, m3, e3, r3, F3⟩ := e_pick F2 (by omega) ([1, 2, 57, 1000000000].map fun n : Nat => PyData.int n) (by simp) (by decide)
    refine fw_of e3 ?_
    obtain ⟨number, u1, rfl⟩ := nat_of r3
    have u2 : 0 < number ∧ number < 10 ^ 10 := by
      simp only [List.mem_cons, List.not_mem_nil, or_false] at u1
      omega
    fail "go"
    obtain ⟨d4, m4, e4, r4, F4⟩ := e_pick F3 (by omega) ([0, 1, 9, 40, 300].map fun n : Nat => PyData.int n) (by simp) (by decide)
    refine fw_of e4 ?_
    obtain ⟨most, v1, rfl⟩ := nat_of r4
    have v2 : most ≤ 300 := by
      simp only [List.mem_cons, List.not_mem_nil, or_false] at v1
      omega
    fail "go"
    obtain ⟨body, m5, e5, w1, w2, F5⟩ := e_text F4 (by omega) most (by omega)
    refine fw_of e5 ?_
    have h14 : page < 10 ^ 14 := by omega
    have n14 : number < 10 ^ 14 := by omega
    have n12 : number < 10 ^ 12 := by omega
    have hl := n1.len
    fail "go"
    refine fw_of (e_dk_both (by omega) h14 n14 (by omega)) ?_
    have hmid : (body.length : Int) - body.length / 2 = (mid body : Nat) := by unfold mid; omega
    have cut_sub : ∀ {lo hi : Option Int} {c : Nat}, c ∈ (cutS body lo hi).cps.toList → c ∈ body.cps.toList := fun h => by
      rw [cutL] at h
      exact List.mem_of_mem_drop (List.mem_of_mem_take h)
    have L0 : (b0 body).length ≤ 300 := Nat.le_trans (cut_len _ _ _) (by omega)
    have L1 : (b1 body).length ≤ 300 := Nat.le_trans (cut_len _ _ _) (by omega)
    have G0 : ∀ c ∈ (b0 body).cps.toList, Sg c := fun c hc => w2 c (cut_sub hc)
    have G1 : ∀ c ∈ (b1 body).cps.toList, Sg c := fun c hc => w2 c (cut_sub hc)
    have H0 := half_len n1 h14 (side := 0) (by decide) n14 (part := b0 body)
    have H1 := half_len n1 h14 (side := 1) (by decide) n14 (part := b1 body)
    have S0 := half_signs (page := page) (side := 0) (n := number) n1 G0
    have S1 := half_signs (page := page) (side := 1) (n := number) n1 G1
    fail "go"
    rw [hmid]
    refine fw_of (e_sides body (by omega)) ?_
    fail "go"
    refine fw_of (e_sides body (by omega)) ?_
    have R0 : Rs (.list [.tuple [.str (b0 body), .str (b1 body)], .tuple [.str (b0 body), .str (b1 body)]]) 2 20000 := by
      have z := rs_tuple (rss_cons (rs_sg G0 L0) (rss_cons (rs_sg G1 L1) rss_nil))
      exact (rs_list (rss_cons z (rss_cons z rss_nil))).mono (by decide) (by decide)
    fail "go"
    refine lf (qRepr R0 (by decide) (by decide)) ?_
    fail "go"
    refine lf (show gMulA (.list [.tuple [.str (cutS body none (some ((mid body : Nat) : Int))), .str (cutS body (some ((mid body : Nat) : Int)) none)]]) (.int 2) = some (.list [.tuple [.str (b0 body), .str (b1 body)], .tuple [.str (b0 body), .str (b1 body)]]) from rfl) ?_
    refine lf (qRepr R0 (by decide) (by decide)) ?_
    fail "go"
    have ept := e_page_texts (name := name) (page := page) (number := number) (body := body) (by omega) h14 n14 (by omega)
    refine fw_of ept ?_
    fail "go"
    refine fw_of ept ?_
    have R1 : Rs (.list [.tuple [.str (halfS name page 0 number (b0 body)), .str (halfS name page 1 number (b1 body))], .tuple [.str (halfS name page 0 number (b0 body)), .str (halfS name page 1 number (b1 body))]]) 2 20000 := by
      have z := rs_tuple (rss_cons (rs_sg S0 (n := 400) (by omega)) (rss_cons (rs_sg S1 (n := 400) (by omega)) rss_nil))
      exact (rs_list (rss_cons z (rss_cons z rss_nil))).mono (by decide) (by decide)
    fail "go"
    refine lf (qRepr R1 (by decide) (by decide)) ?_
    fail "go"
    refine lf (show gMulA (.list [.tuple [.str (halfS name page 0 number (b0 body)), .str (halfS name page 1 number (b1 body))]]) (.int 2) = some (.list [.tuple [.str (halfS name page 0 number (b0 body)), .str (halfS name page 1 number (b1 body))], .tuple [.str (halfS name page 0 number (b0 body)), .str (halfS name page 1 number (b1 body))]]) from rfl) ?_
    refine lf (qRepr R1 (by decide) (by decide)) ?_
    fail "go"
    refine fw_of (e_half_sum body (by omega)) ?_
    fail "go"
    refine fw_of (e_half_sum (halfS name page 0 number (b0 body)) (by omega)) ?_
    have R2 : Rs (.list [.int (sumS body : Nat), .int (sumS (halfS name page 0 number (b0 body)) : Nat)]) 1 20000 := by
      have z1 := sumS_lt body
      have z2 := sumS_lt (halfS name page 0 number (b0 body))
      exact (rs_list (rss_cons (rs_int_nat (by omega)) (rss_cons (rs_int_nat (by omega)) rss_nil))).mono (by decide) (by decide)
    fail "go"
    refine lf (qRepr R2 (by decide) (by decide)) ?_
    fail "go"
    refine fw_of (e_dk_sum body (by omega)) ?_
    fail "go"
    refine fw_of (e_dk_sum (halfS name page 0 number (b0 body)) (by omega)) ?_
    fail "go"
    refine lf (qRepr R2 (by decide) (by decide)) ?_
    fail "go"
    fail "un"
    fail "go"
    refine (e_side F5 (by omega) n1 n2 p2 u2.1 u2.2 (by omega) w2 (.inl rfl) md0).mono ?_
    rintro _ _ ⟨rfl, m6, rfl, F6⟩
    fail "go"
    fail "un"
    fail "go"
    refine (e_side F6 (by omega) n1 n2 p2 u2.1 u2.2 (by omega) w2 (.inr rfl) md1).mono ?_
    rintro _ _ ⟨rfl, m7, rfl, F7⟩
    fail "go"
    obtain ⟨dr, m8, e8, x1, x2, F8⟩ := e_draw F7 (by omega) 9 (by decide) (by decide)
    refine fw_of e8 ?_
    obtain ⟨dn, rfl⟩ := Int.eq_ofNat_of_zero_le x1
    fail "go"
    obtain ⟨other, m9, e9, y1, y2, F9⟩ := e_text F8 (by omega) 9 (by omega)
    refine fw_of e9 ?_
    fail "go"
    have k14 : number + 1 + dn < 10 ^ 14 := by omega
    rw [show (number : Int) + 1 + (dn : Int) = ((number + 1 + dn : Nat) : Int) from rfl]
    refine fw_of (e_dk_both (by omega) h14 k14 (by omega)) ?_
    have M0 : (b0 other).length ≤ 300 := Nat.le_trans (cut_len _ _ _) (by omega)
    have M1 : (b1 other).length ≤ 300 := Nat.le_trans (cut_len _ _ _) (by omega)
    have cut_sub' : ∀ {lo hi : Option Int} {c : Nat}, c ∈ (cutS other lo hi).cps.toList → c ∈ other.cps.toList := fun h => by
      rw [cutL] at h
      exact List.mem_of_mem_drop (List.mem_of_mem_take h)
    have K0 : ∀ c ∈ (b0 other).cps.toList, Sg c := fun c hc => y2 c (cut_sub' hc)
    have K1 : ∀ c ∈ (b1 other).cps.toList, Sg c := fun c hc => y2 c (cut_sub' hc)
    have Z0 := half_ge name (b0 body) page 0 number
    have Z1 := half_ge name (b1 body) page 1 number
    obtain ⟨l0, la, lb⟩ := last_at (t := halfS name page 0 number (b0 body)) (by rw [← lenL]; omega) (by omega)
    obtain ⟨l1, lc, ld⟩ := last_at (t := halfS name page 1 number (b1 body)) (by rw [← lenL]; omega) (by omega)
    fail "go"
    refine lf lb ?_
    fail "go"
    refine lf (qNe_s (x := ⟨#[l0]⟩) (y := ("x" : Str))) ?_
    fail "go"
    refine way_xy (fun c0 c1 c2 => ?_)
    have o0 := last_off (half_bal name (b0 body) page 0 number) S0 (by omega) c1 (fun z => c2 (by rw [la] at z; cases z; rfl))
    fail "go"
    refine lf (qAdd_s (by have := cut_len (halfS name page 0 number (b0 body)) none (some (-1)); have := one_len c0; omega)) ?_
    fail "go"
    refine lf ld ?_
    fail "go"
    refine lf (qNe_s (x := ⟨#[l1]⟩) (y := ("x" : Str))) ?_
    fail "go"
    refine way_xy (fun c3 c4 c5 => ?_)
    have o1 := last_off (half_bal name (b1 body) page 1 number) S1 (by omega) c4 (fun z => c5 (by rw [lc] at z; cases z; rfl))
    fail "go"
    refine lf (qAdd_s (by have := cut_len (halfS name page 1 number (b1 body)) none (some (-1)); have := one_len c3; omega)) ?_
    fail "go"
    have T0 : ∀ d ∈ [PyData.str (halfS name page 0 number (b0 body)), .str (halfS name page 0 (number + 1 + dn) (b0 other)), .str ("" : Str), .str (cutS (halfS name page 0 number (b0 body)) none (some (-1)) ++ ⟨#[c0]⟩), .str (halfS name page 1 number (b1 body))], ∃ s r, d = .str s ∧ Rdb name page 0 s r := by
      intro d hd
      simp only [List.mem_cons, List.not_mem_nil, or_false] at hd
      rcases hd with rfl | rfl | rfl | rfl | rfl
      · exact ⟨_, _, rfl, rdb_half n1 h14 (by decide) u2.1 n12 (by omega) G0⟩
      · exact ⟨_, _, rfl, rdb_half n1 h14 (by decide) (by omega) (by omega) (by omega) K0⟩
      · exact ⟨_, _, rfl, rdb_empty name page 0⟩
      · exact ⟨_, _, rfl, rdb_off n1 h14 (by decide) (by have := o0.2.2; omega) o0.2.1 o0.1⟩
      · exact ⟨_, _, rfl, rdb_other n1 h14 (by decide) (by decide) u2.1 n12 (by omega) (by decide)⟩
    have T1 : ∀ d ∈ [PyData.str (halfS name page 1 number (b1 body)), .str (halfS name page 1 (number + 1 + dn) (b1 other)), .str ("" : Str), .str (cutS (halfS name page 1 number (b1 body)) none (some (-1)) ++ ⟨#[c3]⟩), .str (halfS name page 0 number (b0 body))], ∃ s r, d = .str s ∧ Rdb name page 1 s r := by
      intro d hd
      simp only [List.mem_cons, List.not_mem_nil, or_false] at hd
      rcases hd with rfl | rfl | rfl | rfl | rfl
      · exact ⟨_, _, rfl, rdb_half n1 h14 (by decide) u2.1 n12 (by omega) G1⟩
      · exact ⟨_, _, rfl, rdb_half n1 h14 (by decide) (by omega) (by omega) (by omega) K1⟩
      · exact ⟨_, _, rfl, rdb_empty name page 1⟩
      · exact ⟨_, _, rfl, rdb_off n1 h14 (by decide) (by have := o1.2.2; omega) o1.2.1 o1.1⟩
      · exact ⟨_, _, rfl, rdb_other n1 h14 (by decide) (by decide) u2.1 n12 (by omega) (by decide)⟩
    generalize hB : (PyData.list [PyData.str (halfS name page 0 number (b0 body)), .str (halfS name page 1 number (b1 body))]) = B7
    generalize hC : (PyData.list [PyData.str (halfS name page 0 (number + 1 + dn) (b0 other)), .str (halfS name page 1 (number + 1 + dn) (b1 other))]) = B10
    refine wp_forL (fun r e => (∃ (q12 q13 q14 : Option M), e = [some (.d (.list (ns.map .int))), some m9, some (.d d), some (.d (.str name)), some (.d (.int page)), some (.d (.int number)), some (.d (.str body)), some (.d B7), some (.d (.int (mid body : Nat))), some (.d (.int 1)), some (.d B10), some (.d (.list [.str (cutS (halfS name page 0 number (b0 body)) none (some (-1)) ++ ⟨#[c0]⟩), .str (cutS (halfS name page 1 number (b1 body)) none (some (-1)) ++ ⟨#[c3]⟩)])), q12, q13, q14]) ∧ ∀ d ∈ r, ∃ s r, d = .str s ∧ Rdb name page 0 s r)
      ?_ ?_ _ _ ⟨⟨_, _, _, rfl⟩, T0⟩
    · rintro d0 r0 e ⟨⟨q12, q13, q14, rfl⟩, hd⟩
      obtain ⟨sl, x0, rfl, X0⟩ := hd d0 List.mem_cons_self
      subst hB
      subst hC
      apply tgt_go
      · fail "env"
      fail "go"
      refine wp_forL (fun r e => (∃ (q13 q14 : Option M), e = [some (.d (.list (ns.map .int))), some m9, some (.d d), some (.d (.str name)), some (.d (.int page)), some (.d (.int number)), some (.d (.str body)), some (.d (.list [PyData.str (halfS name page 0 number (b0 body)), .str (halfS name page 1 number (b1 body))])), some (.d (.int (mid body : Nat))), some (.d (.int 1)), some (.d (.list [PyData.str (halfS name page 0 (number + 1 + dn) (b0 other)), .str (halfS name page 1 (number + 1 + dn) (b1 other))])), some (.d (.list [.str (cutS (halfS name page 0 number (b0 body)) none (some (-1)) ++ ⟨#[c0]⟩), .str (cutS (halfS name page 1 number (b1 body)) none (some (-1)) ++ ⟨#[c3]⟩)])), some (.d (.str sl)), q13, q14]) ∧ ∀ d ∈ r, ∃ s r, d = .str s ∧ Rdb name page 1 s r)
        ?_ ?_ _ _ ⟨⟨_, _, rfl⟩, T1⟩
      · rintro d1 r1 e ⟨⟨q13, q14, rfl⟩, he⟩
        obtain ⟨sr, x1, rfl, X1⟩ := he d1 List.mem_cons_self
        apply tgt_go
        · fail "env"
        have eb := e_both X0 X1
        have rb := rs_st X0 X1
        have rr := (rs_list (rss_cons rb (rss_cons rb rss_nil))).mono (k' := 60) (n' := 16777216) (by decide) (by decide)
        fail "go"
        refine fw_of eb.2 ?_
        fail "go"
        refine fw_of eb.1 ?_
        fail "go"
        refine fw_of eb.1 ?_
        fail "go"
        refine lf (qRepr rr (by decide) (by decide)) ?_
        fail "go"
        refine lf (qRepr rr (by decide) (by decide)) ?_
        fail "go"
        exact .inl ⟨.inl rfl, ⟨_, _, rfl⟩, fun d h => he d (List.mem_cons_of_mem _ h)⟩
      · rintro e ⟨⟨q13, q14, rfl⟩, _⟩
        exact .inl ⟨.inl rfl, ⟨_, _, _, rfl⟩, fun d h => hd d (List.mem_cons_of_mem _ h)⟩
    · rintro e ⟨⟨q12, q13, q14, rfl⟩, _⟩
      exact .inl ⟨.inl rfl, m9, _, _, _, _, _, _, _, _, _, _, _, _, _, _, rfl, F9, by omega⟩
  · rintro e ⟨m, b, q2, q3, q4, q5, q6, q7, q8, q9, q10, q11, q12, q13, q14, rfl, hF, hb⟩
    have s0 : sumS ("" : Str) = 0 := by decide +kernel
    have s1 : sumS ("ab" : Str) = 293 := by decide +kernel
    fail "go"
    refine fw_of (e_half_sum "" (by decide)) ?_
    rw [s0]
    fail "go"
    refine fw_of (e_half_sum "ab" (by decide)) ?_
    rw [s1]
    fail "go"
    exact ⟨rfl, rfl⟩
end DL.K77
set_option Elab.async false
set_option linter.all false
set_option maxRecDepth 100000
set_option maxHeartbeats 0
namespace DL.K77
open PySem PySem.Spec PyProof.Rows L2
/-! ### the head: facts by names, the run -/
def n_half_sum : He.FnD := ⟨("half_sum", none), "half_sum", "half_sum", defArgs s_half_sum, defBody s_half_sum, defScope s_half_sum⟩
def n_sides_of : He.FnD := ⟨("sides_of", none), "sides_of", "sides_of", defArgs s_sides_of, defBody s_sides_of, defScope s_sides_of⟩
def n_half_text : He.FnD := ⟨("half_text", none), "half_text", "half_text", defArgs s_half_text, defBody s_half_text, defScope s_half_text⟩
def n_is_figures : He.FnD := ⟨("is_figures", none), "is_figures", "is_figures", defArgs s_is_figures, defBody s_is_figures, defScope s_is_figures⟩
def n_read_half : He.FnD := ⟨("read_half", none), "read_half", "read_half", defArgs s_read_half, defBody s_read_half, defScope s_read_half⟩
def n_page_texts : He.FnD := ⟨("page_texts", none), "page_texts", "page_texts", defArgs s_page_texts, defBody s_page_texts, defScope s_page_texts⟩
def n_state_of_halves : He.FnD := ⟨("state_of_halves", none), "state_of_halves", "state_of_halves", defArgs s_state_of_halves, defBody s_state_of_halves, defScope s_state_of_halves⟩
def n__law_begun : He.FnD := ⟨("_law_begun", none), "_law_begun", "_law_begun", defArgs s__law_begun, defBody s__law_begun, defScope s__law_begun⟩
def n__law_blended : He.FnD := ⟨("_law_blended", none), "_law_blended", "_law_blended", defArgs s__law_blended, defBody s__law_blended, defScope s__law_blended⟩
def n__law_draw : He.FnD := ⟨("_law_draw", none), "_law_draw", "_law_draw", defArgs s__law_draw, defBody s__law_draw, defScope s__law_draw⟩
def n__law_pick : He.FnD := ⟨("_law_pick", none), "_law_pick", "_law_pick", defArgs s__law_pick, defBody s__law_pick, defScope s__law_pick⟩
def n__law_dk_signs : He.FnD := ⟨("_law_dk_signs", none), "_law_dk_signs", "_law_dk_signs", defArgs s__law_dk_signs, defBody s__law_dk_signs, defScope s__law_dk_signs⟩
def n__law_dk_text : He.FnD := ⟨("_law_dk_text", none), "_law_dk_text", "_law_dk_text", defArgs s__law_dk_text, defBody s__law_dk_text, defScope s__law_dk_text⟩
def n__law_dk_sum : He.FnD := ⟨("_law_dk_sum", none), "_law_dk_sum", "_law_dk_sum", defArgs s__law_dk_sum, defBody s__law_dk_sum, defScope s__law_dk_sum⟩
def n__law_dk_half : He.FnD := ⟨("_law_dk_half", none), "_law_dk_half", "_law_dk_half", defArgs s__law_dk_half, defBody s__law_dk_half, defScope s__law_dk_half⟩
def n__law_dk_both : He.FnD := ⟨("_law_dk_both", none), "_law_dk_both", "_law_dk_both", defArgs s__law_dk_both, defBody s__law_dk_both, defScope s__law_dk_both⟩
def n__law_dk_read : He.FnD := ⟨("_law_dk_read", none), "_law_dk_read", "_law_dk_read", defArgs s__law_dk_read, defBody s__law_dk_read, defScope s__law_dk_read⟩
def n__law_dk_state : He.FnD := ⟨("_law_dk_state", none), "_law_dk_state", "_law_dk_state", defArgs s__law_dk_state, defBody s__law_dk_state, defScope s__law_dk_state⟩
def n__law_k77_near : He.FnD := ⟨("_law_k77_near", none), "_law_k77_near", "_law_k77_near", defArgs s__law_k77_near, defBody s__law_k77_near, defScope s__law_k77_near⟩
def n__law_k77_made : He.FnD := ⟨("_law_k77_made", none), "_law_k77_made", "_law_k77_made", defArgs s__law_k77_made, defBody s__law_k77_made, defScope s__law_k77_made⟩
def n__law_k77_side : He.FnD := ⟨("_law_k77_side", none), "_law_k77_side", "_law_k77_side", defArgs s__law_k77_side, defBody s__law_k77_side, defScope s__law_k77_side⟩
def n_law : He.FnD := ⟨("law", none), "law", "law", defArgs s_law, defBody s_law, defScope s_law⟩
def fnL : List He.FnD := [n_half_sum, n_sides_of, n_half_text, n_is_figures, n_read_half, n_page_texts, n_state_of_halves, n__law_begun, n__law_blended, n__law_draw, n__law_pick, n__law_dk_signs, n__law_dk_text, n__law_dk_sum, n__law_dk_half, n__law_dk_both, n__law_dk_read, n__law_dk_state, n__law_k77_near, n__law_k77_made, n__law_k77_side, n_law]
def faL : List He.Fa := [.glo "half_sum", .keep "half_sum", .glo "sides_of", .keep "sides_of", .glo "half_text", .keep "half_text", .glo "is_figures", .keep "is_figures", .glo "read_half", .keep "read_half", .glo "page_texts", .keep "page_texts", .glo "state_of_halves", .keep "state_of_halves", .glo "_law_begun", .keep "_law_begun", .glo "_law_blended", .keep "_law_blended", .glo "_law_draw", .keep "_law_draw", .glo "_law_pick", .keep "_law_pick", .glo "_law_dk_signs", .keep "_law_dk_signs", .glo "_law_dk_text", .keep "_law_dk_text", .glo "_law_dk_sum", .keep "_law_dk_sum", .glo "_law_dk_half", .keep "_law_dk_half", .glo "_law_dk_both", .keep "_law_dk_both", .glo "_law_dk_read", .keep "_law_dk_read", .glo "_law_dk_state", .keep "_law_dk_state", .glo "_law_k77_near", .keep "_law_k77_near", .glo "_law_k77_made", .keep "_law_k77_made", .glo "_law_k77_side", .keep "_law_k77_side", .glo "law", .keep "law", .free "enumerate", .free "ord", .free "sum", .int "PRIME" 999983, .free "len", .free "all", .str "FIGURES" ("0123456789" : Str), .int "MOST_FIGURES" 12, .free "int", .int "HEAD" 7, .free "tuple", .free "abs", .free "range", .free "str", .free "max", .free "min", .free "repr"]
def names0 : List PySem.Str := ["FIGURES", "PRIME", "HEAD", "MOST_FIGURES", "half_sum", "sides_of", "half_text", "is_figures", "read_half", "page_texts", "state_of_halves", "_law_begun", "_law_blended", "_law_draw", "_law_pick", "_law_dk_signs", "_law_dk_text", "_law_dk_sum", "_law_dk_half", "_law_dk_both", "_law_dk_read", "_law_dk_state", "_law_k77_near", "_law_k77_made", "_law_k77_side"]
def namesL : List PySem.Str := names0
theorem facts {P : Program} {w : World} {K : PySem.W.Frag} {h : Heap} {mg : Str → Option Value} {f : Addr} (X : K.In h) (G : h.Ns mainGlobals mg) (hfa : mg ("law" : Str) = some (.ref f)) (c : He.SaysE faL fnL K) :
    ∃ fd : FuncData, (∀ (s : Shared) (v : Value), BindsTo s fd ⟨[v], []⟩ [("script", v)]) ∧ ∀ base : Heap, K.In base → base.Ns mainGlobals mg → FnG P w K mg base (L2.CX P w) 5 f fd ["script"] (spD K mg 1 [false] F_law) := by
  obtain ⟨oc0, od0, os0, kV0, dc0, pm0, an0, cd0, ct0, l0, q0⟩ := c.def_ 0 (d := n_half_sum) rfl
  obtain ⟨oc1, od1, os1, kV1, dc1, pm1, an1, cd1, ct1, l1, q1⟩ := c.def_ 1 (d := n_sides_of) rfl
  obtain ⟨oc2, od2, os2, kV2, dc2, pm2, an2, cd2, ct2, l2, q2⟩ := c.def_ 2 (d := n_half_text) rfl
  obtain ⟨oc3, od3, os3, kV3, dc3, pm3, an3, cd3, ct3, l3, q3⟩ := c.def_ 3 (d := n_is_figures) rfl
  obtain ⟨oc4, od4, os4, kV4, dc4, pm4, an4, cd4, ct4, l4, q4⟩ := c.def_ 4 (d := n_read_half) rfl
  obtain ⟨oc5, od5, os5, kV5, dc5, pm5, an5, cd5, ct5, l5, q5⟩ := c.def_ 5 (d := n_page_texts) rfl
  obtain ⟨oc6, od6, os6, kV6, dc6, pm6, an6, cd6, ct6, l6, q6⟩ := c.def_ 6 (d := n_state_of_halves) rfl
  obtain ⟨oc7, od7, os7, kV7, dc7, pm7, an7, cd7, ct7, l7, q7⟩ := c.def_ 7 (d := n__law_begun) rfl
  obtain ⟨oc8, od8, os8, kV8, dc8, pm8, an8, cd8, ct8, l8, q8⟩ := c.def_ 8 (d := n__law_blended) rfl
  obtain ⟨oc9, od9, os9, kV9, dc9, pm9, an9, cd9, ct9, l9, q9⟩ := c.def_ 9 (d := n__law_draw) rfl
  obtain ⟨oc10, od10, os10, kV10, dc10, pm10, an10, cd10, ct10, l10, q10⟩ := c.def_ 10 (d := n__law_pick) rfl
  obtain ⟨oc11, od11, os11, kV11, dc11, pm11, an11, cd11, ct11, l11, q11⟩ := c.def_ 11 (d := n__law_dk_signs) rfl
  obtain ⟨oc12, od12, os12, kV12, dc12, pm12, an12, cd12, ct12, l12, q12⟩ := c.def_ 12 (d := n__law_dk_text) rfl
  obtain ⟨oc13, od13, os13, kV13, dc13, pm13, an13, cd13, ct13, l13, q13⟩ := c.def_ 13 (d := n__law_dk_sum) rfl
  obtain ⟨oc14, od14, os14, kV14, dc14, pm14, an14, cd14, ct14, l14, q14⟩ := c.def_ 14 (d := n__law_dk_half) rfl
  obtain ⟨oc15, od15, os15, kV15, dc15, pm15, an15, cd15, ct15, l15, q15⟩ := c.def_ 15 (d := n__law_dk_both) rfl
  obtain ⟨oc16, od16, os16, kV16, dc16, pm16, an16, cd16, ct16, l16, q16⟩ := c.def_ 16 (d := n__law_dk_read) rfl
  obtain ⟨oc17, od17, os17, kV17, dc17, pm17, an17, cd17, ct17, l17, q17⟩ := c.def_ 17 (d := n__law_dk_state) rfl
  obtain ⟨oc18, od18, os18, kV18, dc18, pm18, an18, cd18, ct18, l18, q18⟩ := c.def_ 18 (d := n__law_k77_near) rfl
  obtain ⟨oc19, od19, os19, kV19, dc19, pm19, an19, cd19, ct19, l19, q19⟩ := c.def_ 19 (d := n__law_k77_made) rfl
  obtain ⟨oc20, od20, os20, kV20, dc20, pm20, an20, cd20, ct20, l20, q20⟩ := c.def_ 20 (d := n__law_k77_side) rfl
  obtain ⟨oc21, od21, os21, kV21, dc21, pm21, an21, cd21, ct21, l21, q21⟩ := c.def_ 21 (d := n_law) rfl
  have e := hfa.symm.trans (He.glo_ok X G (c.fact 42 (f := .glo "law") rfl))
  cases e
  refine ⟨PySem.W.fnOf "law" "law" (defArgs s_law) (defBody s_law) (defScope s_law) .none kV21 dc21 pm21 an21 cd21 ct21, fun s v => .of_eq rfl, fun base _ _ => ?_⟩
  have m_enumerate := He.free_ok X G (c.fact 44 (f := .free "enumerate") rfl)
  have m_ord := He.free_ok X G (c.fact 45 (f := .free "ord") rfl)
  have m_sum := He.free_ok X G (c.fact 46 (f := .free "sum") rfl)
  have m_PRIME := gc_int X G (c.fact 47 (f := .int "PRIME" 999983) rfl)
  have m_len := He.free_ok X G (c.fact 48 (f := .free "len") rfl)
  have m_all := He.free_ok X G (c.fact 49 (f := .free "all") rfl)
  have m_FIGURES := gc_str X G (c.fact 50 (f := .str "FIGURES" ("0123456789" : Str)) rfl)
  have m_MOST_FIGURES := gc_int X G (c.fact 51 (f := .int "MOST_FIGURES" 12) rfl)
  have m_int := He.free_ok X G (c.fact 52 (f := .free "int") rfl)
  have m_HEAD := gc_int X G (c.fact 53 (f := .int "HEAD" 7) rfl)
  have m_tuple := He.free_ok X G (c.fact 54 (f := .free "tuple") rfl)
  have m_abs := He.free_ok X G (c.fact 55 (f := .free "abs") rfl)
  have m_range := He.free_ok X G (c.fact 56 (f := .free "range") rfl)
  have m_str := He.free_ok X G (c.fact 57 (f := .free "str") rfl)
  have m_max := He.free_ok X G (c.fact 58 (f := .free "max") rfl)
  have m_min := He.free_ok X G (c.fact 59 (f := .free "min") rfl)
  have m_repr := He.free_ok X G (c.fact 60 (f := .free "repr") rfl)
  have U_half_sum := fun_mk (x := "half_sum") (qual := "half_sum") (st := s_half_sum) l0 q0 (He.keep_ok (c.fact 1 (f := .keep "half_sum") rfl))
  have bb_half_sum : Binds K _ ["text"] [] := U_half_sum.binds (ps := ["text"]) fun _ _ _ _ _ _ us hl => match us, hl with | [u0], _ => rfl
  have c_half_sum : DCal P w K mg base 1 "half_sum" s_half_sum ["text"] b_half_sum F_half_sum := dcal_of U_half_sum (He.glo_ok X G (c.fact 0 (f := .glo "half_sum") rfl)) bb_half_sum (ok_half_sum U_half_sum m_enumerate m_ord m_sum m_PRIME)
  have U_sides_of := fun_mk (x := "sides_of") (qual := "sides_of") (st := s_sides_of) l1 q1 (He.keep_ok (c.fact 3 (f := .keep "sides_of") rfl))
  have bb_sides_of : Binds K _ ["body"] [] := U_sides_of.binds (ps := ["body"]) fun _ _ _ _ _ _ us hl => match us, hl with | [u0], _ => rfl
  have c_sides_of : DCal P w K mg base 1 "sides_of" s_sides_of ["body"] b_sides_of F_sides_of := dcal_of U_sides_of (He.glo_ok X G (c.fact 2 (f := .glo "sides_of") rfl)) bb_sides_of (ok_sides_of U_sides_of m_len)
  have U_half_text := fun_mk (x := "half_text") (qual := "half_text") (st := s_half_text) l2 q2 (He.keep_ok (c.fact 5 (f := .keep "half_text") rfl))
  have bb_half_text : Binds K _ ["name", "page", "side", "number", "part"] [] := U_half_text.binds (ps := ["name", "page", "side", "number", "part"]) fun _ _ _ _ _ _ us hl => match us, hl with | [u0, u1, u2, u3, u4], _ => rfl
  have c_half_text : DCal P w K mg base 2 "half_text" s_half_text ["name", "page", "side", "number", "part"] b_half_text F_half_text := dcal_of U_half_text (He.glo_ok X G (c.fact 4 (f := .glo "half_text") rfl)) bb_half_text (ok_half_text U_half_text c_half_sum)
  have U_is_figures := fun_mk (x := "is_figures") (qual := "is_figures") (st := s_is_figures) l3 q3 (He.keep_ok (c.fact 7 (f := .keep "is_figures") rfl))
  have bb_is_figures : Binds K _ ["text"] [] := U_is_figures.binds (ps := ["text"]) fun _ _ _ _ _ _ us hl => match us, hl with | [u0], _ => rfl
  have c_is_figures : DCal P w K mg base 1 "is_figures" s_is_figures ["text"] b_is_figures F_is_figures := dcal_of U_is_figures (He.glo_ok X G (c.fact 6 (f := .glo "is_figures") rfl)) bb_is_figures (ok_is_figures U_is_figures m_all m_len m_FIGURES m_MOST_FIGURES)
  have U_read_half := fun_mk (x := "read_half") (qual := "read_half") (st := s_read_half) l4 q4 (He.keep_ok (c.fact 9 (f := .keep "read_half") rfl))
  have bb_read_half : Binds K _ ["name", "page", "side", "text"] [] := U_read_half.binds (ps := ["name", "page", "side", "text"]) fun _ _ _ _ _ _ us hl => match us, hl with | [u0, u1, u2, u3], _ => rfl
  have c_read_half : DCal P w K mg base 2 "read_half" s_read_half ["name", "page", "side", "text"] b_read_half F_read_half := dcal_of U_read_half (He.glo_ok X G (c.fact 8 (f := .glo "read_half") rfl)) bb_read_half (ok_read_half U_read_half c_half_sum c_is_figures m_int m_len m_HEAD)
  have U_page_texts := fun_mk (x := "page_texts") (qual := "page_texts") (st := s_page_texts) l5 q5 (He.keep_ok (c.fact 11 (f := .keep "page_texts") rfl))
  have bb_page_texts : Binds K _ ["name", "page", "number", "body"] [] := U_page_texts.binds (ps := ["name", "page", "number", "body"]) fun _ _ _ _ _ _ us hl => match us, hl with | [u0, u1, u2, u3], _ => rfl
  have c_page_texts : DCal P w K mg base 3 "page_texts" s_page_texts ["name", "page", "number", "body"] b_page_texts F_page_texts := dcal_of U_page_texts (He.glo_ok X G (c.fact 10 (f := .glo "page_texts") rfl)) bb_page_texts (ok_page_texts U_page_texts c_half_text c_sides_of)
  have U_state_of_halves := fun_mk (x := "state_of_halves") (qual := "state_of_halves") (st := s_state_of_halves) l6 q6 (He.keep_ok (c.fact 13 (f := .keep "state_of_halves") rfl))
  have bb_state_of_halves : Binds K _ ["name", "page", "left", "right"] [] := U_state_of_halves.binds (ps := ["name", "page", "left", "right"]) fun _ _ _ _ _ _ us hl => match us, hl with | [u0, u1, u2, u3], _ => rfl
  have c_state_of_halves : DCal P w K mg base 3 "state_of_halves" s_state_of_halves ["name", "page", "left", "right"] b_state_of_halves F_state_of_halves := dcal_of U_state_of_halves (He.glo_ok X G (c.fact 12 (f := .glo "state_of_halves") rfl)) bb_state_of_halves (ok_state_of_halves U_state_of_halves c_read_half m_enumerate m_tuple)
  have U__law_begun := fun_mk (x := "_law_begun") (qual := "_law_begun") (st := s__law_begun) l7 q7 (He.keep_ok (c.fact 15 (f := .keep "_law_begun") rfl))
  have bb__law_begun : Binds K _ ["script"] [] := U__law_begun.binds (ps := ["script"]) fun _ _ _ _ _ _ us hl => match us, hl with | [u0], _ => rfl
  have c__law_begun : DCal P w K mg base 1 "_law_begun" s__law_begun ["script"] b__law_begun F__law_begun := dcal_of U__law_begun (He.glo_ok X G (c.fact 14 (f := .glo "_law_begun") rfl)) bb__law_begun (ok__law_begun U__law_begun m_abs)
  have U__law_blended := fun_mk (x := "_law_blended") (qual := "_law_blended") (st := s__law_blended) l8 q8 (He.keep_ok (c.fact 17 (f := .keep "_law_blended") rfl))
  have bb__law_blended : Binds K _ ["state"] [] := U__law_blended.binds (ps := ["state"]) fun _ _ _ _ _ _ us hl => match us, hl with | [u0], _ => rfl
  have c__law_blended : DCal P w K mg base 1 "_law_blended" s__law_blended ["state"] b__law_blended F__law_blended := dcal_of U__law_blended (He.glo_ok X G (c.fact 16 (f := .glo "_law_blended") rfl)) bb__law_blended (ok__law_blended U__law_blended m_int)
  have U__law_draw := fun_mk (x := "_law_draw") (qual := "_law_draw") (st := s__law_draw) l9 q9 (He.keep_ok (c.fact 19 (f := .keep "_law_draw") rfl))
  have bb__law_draw : Binds K _ ["state", "size_here"] [] := U__law_draw.binds (ps := ["state", "size_here"]) fun _ _ _ _ _ _ us hl => match us, hl with | [u0, u1], _ => rfl
  have c__law_draw : DCal P w K mg base 2 "_law_draw" s__law_draw ["state", "size_here"] b__law_draw F__law_draw := dcal_of U__law_draw (He.glo_ok X G (c.fact 18 (f := .glo "_law_draw") rfl)) bb__law_draw (ok__law_draw U__law_draw c__law_blended m_int)
  have U__law_pick := fun_mk (x := "_law_pick") (qual := "_law_pick") (st := s__law_pick) l10 q10 (He.keep_ok (c.fact 21 (f := .keep "_law_pick") rfl))
  have bb__law_pick : Binds K _ ["state", "several"] [] := U__law_pick.binds (ps := ["state", "several"]) fun _ _ _ _ _ _ us hl => match us, hl with | [u0, u1], _ => rfl
  have c__law_pick : DCal P w K mg base 3 "_law_pick" s__law_pick ["state", "several"] b__law_pick F__law_pick := dcal_of U__law_pick (He.glo_ok X G (c.fact 20 (f := .glo "_law_pick") rfl)) bb__law_pick (ok__law_pick U__law_pick c__law_draw m_len)
  have U__law_dk_signs := fun_mk (x := "_law_dk_signs") (qual := "_law_dk_signs") (st := s__law_dk_signs) l11 q11 (He.keep_ok (c.fact 23 (f := .keep "_law_dk_signs") rfl))
  have bb__law_dk_signs : Binds K _ [] [] := U__law_dk_signs.binds (ps := []) fun _ _ _ _ _ _ us hl => match us, hl with | [], _ => rfl
  have c__law_dk_signs : DCal P w K mg base 1 "_law_dk_signs" s__law_dk_signs [] b__law_dk_signs F__law_dk_signs := dcal_of U__law_dk_signs (He.glo_ok X G (c.fact 22 (f := .glo "_law_dk_signs") rfl)) bb__law_dk_signs (ok__law_dk_signs U__law_dk_signs)
  have U__law_dk_text := fun_mk (x := "_law_dk_text") (qual := "_law_dk_text") (st := s__law_dk_text) l12 q12 (He.keep_ok (c.fact 25 (f := .keep "_law_dk_text") rfl))
  have bb__law_dk_text : Binds K _ ["state", "most"] [] := U__law_dk_text.binds (ps := ["state", "most"]) fun _ _ _ _ _ _ us hl => match us, hl with | [u0, u1], _ => rfl
  have c__law_dk_text : DCal P w K mg base 3 "_law_dk_text" s__law_dk_text ["state", "most"] b__law_dk_text F__law_dk_text := dcal_of U__law_dk_text (He.glo_ok X G (c.fact 24 (f := .glo "_law_dk_text") rfl)) bb__law_dk_text (ok__law_dk_text U__law_dk_text c__law_dk_signs c__law_draw m_len m_range)
  have U__law_dk_sum := fun_mk (x := "_law_dk_sum") (qual := "_law_dk_sum") (st := s__law_dk_sum) l13 q13 (He.keep_ok (c.fact 27 (f := .keep "_law_dk_sum") rfl))
  have bb__law_dk_sum : Binds K _ ["text"] [] := U__law_dk_sum.binds (ps := ["text"]) fun _ _ _ _ _ _ us hl => match us, hl with | [u0], _ => rfl
  have c__law_dk_sum : DCal P w K mg base 1 "_law_dk_sum" s__law_dk_sum ["text"] b__law_dk_sum F__law_dk_sum := dcal_of U__law_dk_sum (He.glo_ok X G (c.fact 26 (f := .glo "_law_dk_sum") rfl)) bb__law_dk_sum (ok__law_dk_sum U__law_dk_sum m_enumerate m_int m_ord)
  have U__law_dk_half := fun_mk (x := "_law_dk_half") (qual := "_law_dk_half") (st := s__law_dk_half) l14 q14 (He.keep_ok (c.fact 29 (f := .keep "_law_dk_half") rfl))
  have bb__law_dk_half : Binds K _ ["name", "page", "side", "number", "part"] [] := U__law_dk_half.binds (ps := ["name", "page", "side", "number", "part"]) fun _ _ _ _ _ _ us hl => match us, hl with | [u0, u1, u2, u3, u4], _ => rfl
  have c__law_dk_half : DCal P w K mg base 2 "_law_dk_half" s__law_dk_half ["name", "page", "side", "number", "part"] b__law_dk_half F__law_dk_half := dcal_of U__law_dk_half (He.glo_ok X G (c.fact 28 (f := .glo "_law_dk_half") rfl)) bb__law_dk_half (ok__law_dk_half U__law_dk_half c__law_dk_sum m_str)
  have U__law_dk_both := fun_mk (x := "_law_dk_both") (qual := "_law_dk_both") (st := s__law_dk_both) l15 q15 (He.keep_ok (c.fact 31 (f := .keep "_law_dk_both") rfl))
  have bb__law_dk_both : Binds K _ ["name", "page", "number", "body"] [] := U__law_dk_both.binds (ps := ["name", "page", "number", "body"]) fun _ _ _ _ _ _ us hl => match us, hl with | [u0, u1, u2, u3], _ => rfl
  have c__law_dk_both : DCal P w K mg base 3 "_law_dk_both" s__law_dk_both ["name", "page", "number", "body"] b__law_dk_both F__law_dk_both := dcal_of U__law_dk_both (He.glo_ok X G (c.fact 30 (f := .glo "_law_dk_both") rfl)) bb__law_dk_both (ok__law_dk_both U__law_dk_both c__law_dk_half m_len)
  have U__law_dk_read := fun_mk (x := "_law_dk_read") (qual := "_law_dk_read") (st := s__law_dk_read) l16 q16 (He.keep_ok (c.fact 33 (f := .keep "_law_dk_read") rfl))
  have bb__law_dk_read : Binds K _ ["name", "page", "side", "text"] [] := U__law_dk_read.binds (ps := ["name", "page", "side", "text"]) fun _ _ _ _ _ _ us hl => match us, hl with | [u0, u1, u2, u3], _ => rfl
  have c__law_dk_read : DCal P w K mg base 3 "_law_dk_read" s__law_dk_read ["name", "page", "side", "text"] b__law_dk_read F__law_dk_read := dcal_of U__law_dk_read (He.glo_ok X G (c.fact 32 (f := .glo "_law_dk_read") rfl)) bb__law_dk_read (ok__law_dk_read U__law_dk_read c__law_dk_half m_int m_len)
  have U__law_dk_state := fun_mk (x := "_law_dk_state") (qual := "_law_dk_state") (st := s__law_dk_state) l17 q17 (He.keep_ok (c.fact 35 (f := .keep "_law_dk_state") rfl))
  have bb__law_dk_state : Binds K _ ["name", "page", "texts"] [] := U__law_dk_state.binds (ps := ["name", "page", "texts"]) fun _ _ _ _ _ _ us hl => match us, hl with | [u0, u1, u2], _ => rfl
  have c__law_dk_state : DCal P w K mg base 4 "_law_dk_state" s__law_dk_state ["name", "page", "texts"] b__law_dk_state F__law_dk_state := dcal_of U__law_dk_state (He.glo_ok X G (c.fact 34 (f := .glo "_law_dk_state") rfl)) bb__law_dk_state (ok__law_dk_state U__law_dk_state c__law_dk_read m_tuple)
  have U__law_k77_near := fun_mk (x := "_law_k77_near") (qual := "_law_k77_near") (st := s__law_k77_near) l18 q18 (He.keep_ok (c.fact 37 (f := .keep "_law_k77_near") rfl))
  have bb__law_k77_near : Binds K _ ["state", "text"] [] := U__law_k77_near.binds (ps := ["state", "text"]) fun _ _ _ _ _ _ us hl => match us, hl with | [u0, u1], _ => rfl
  have c__law_k77_near : DCal P w K mg base 3 "_law_k77_near" s__law_k77_near ["state", "text"] b__law_k77_near F__law_k77_near := dcal_of U__law_k77_near (He.glo_ok X G (c.fact 36 (f := .glo "_law_k77_near") rfl)) bb__law_k77_near (ok__law_k77_near U__law_k77_near c__law_dk_signs c__law_draw m_len m_max m_min m_range)
  have U__law_k77_made := fun_mk (x := "_law_k77_made") (qual := "_law_k77_made") (st := s__law_k77_made) l19 q19 (He.keep_ok (c.fact 39 (f := .keep "_law_k77_made") rfl))
  have bb__law_k77_made : Binds K _ ["name", "page", "side"] [] := U__law_k77_made.binds (ps := ["name", "page", "side"]) fun _ _ _ _ _ _ us hl => match us, hl with | [u0, u1, u2], _ => rfl
  have c__law_k77_made : DCal P w K mg base 2 "_law_k77_made" s__law_k77_made ["name", "page", "side"] b__law_k77_made F__law_k77_made := dcal_of U__law_k77_made (He.glo_ok X G (c.fact 38 (f := .glo "_law_k77_made") rfl)) bb__law_k77_made (ok__law_k77_made U__law_k77_made c__law_dk_sum m_str)
  have U__law_k77_side := fun_mk (x := "_law_k77_side") (qual := "_law_k77_side") (st := s__law_k77_side) l20 q20 (He.keep_ok (c.fact 41 (f := .keep "_law_k77_side") rfl))
  have bb__law_k77_side : Binds K _ ["state", "name", "page", "number", "body", "side"] [] := U__law_k77_side.binds (ps := ["state", "name", "page", "number", "body", "side"]) fun _ _ _ _ _ _ us hl => match us, hl with | [u0, u1, u2, u3, u4, u5], _ => rfl
  have c__law_k77_side : DCal P w K mg base 4 "_law_k77_side" s__law_k77_side ["state", "name", "page", "number", "body", "side"] b__law_k77_side F__law_k77_side := dcal_of U__law_k77_side (He.glo_ok X G (c.fact 40 (f := .glo "_law_k77_side") rfl)) bb__law_k77_side (ok__law_k77_side U__law_k77_side c__law_dk_both c__law_k77_made c__law_k77_near c_half_text c_read_half m_len m_repr)
  have U_law := fun_mk (x := "law") (qual := "law") (st := s_law) l21 q21 (He.keep_ok (c.fact 43 (f := .keep "law") rfl))
  exact ok_law U_law c__law_begun c__law_dk_both c__law_dk_state c__law_dk_sum c__law_dk_text c__law_draw c__law_k77_side c__law_pick c_half_sum c_page_texts c_sides_of c_state_of_halves m_len m_min m_range m_repr m_tuple
abbrev RR : PySem.W.OpenRow := PySem.W.OpenLaw.row PySem.Challenge.rw_onelinekept_k77_halves_bear_place_number
abbrev hkL : PySem.W.Hook := He.hookE 4 faL fnL
def obL (s : PySem.W.SharedT) : He.Al := He.obsG 4 faL fnL (HandSHeadRun.getT s)
theorem ob_eq (s : PySem.W.SharedT) : obL s = hkL.obs s.abs := He.obsG_eq (HandSHeadRun.getT_eq s)
theorem run (w : World) : HandSHeadRun.RunEq RR (PySem.W.view RR.prog [27]) hkL obL 4000 namesL w := by
  intro os
  kernel_rfl
end DL.K77
open PySem PySem.W PySem.Calls PyProof.Rows
set_option maxRecDepth 100000 in
set_option maxHeartbeats 0 in
theorem PySem.Challenge.cw_onelinekept_k77_halves_bear_place_number_holds : PySem.Challenge.rw_onelinekept_k77_halves_bear_place_number.Holds := by
  w_on; o_law
  refine HandSHeadRun.head_any (r := OpenLaw.row PySem.Challenge.rw_onelinekept_k77_halves_bear_place_number) (q := view (OpenLaw.row PySem.Challenge.rw_onelinekept_k77_halves_bear_place_number).prog [27]) (H := DL.K77.hkL) (ob := DL.K77.obL) (M := 4000) (loose := DL.K77.namesL) (d := HandSHeadRun.topDef (OpenLaw.row PySem.Challenge.rw_onelinekept_k77_halves_bear_place_number).prog 27) (kwd := []) DL.K77.ob_eq
    (by kernel_rfl) (fun s => by kernel_rfl) DL.K77.run (by kernel_rfl) (by kernel_rfl) (by kernel_rfl) (by rfl) (by first | assumption | decide +kernel) (by decide +kernel) ⟨rfl, rfl, rfl, rfl, rfl, by decide +kernel⟩ ?hw ?hc
  case hw => w_witness2
  case hc =>
    refine DL.walk_gE (l := PySem.Challenge.rw_onelinekept_k77_halves_bear_place_number) (n := 63) (k := 5) (x := "script") (G := DL.K77.F_law) rfl (by decide) (by kernel_rfl) ⟨rfl, by decide, by decide⟩ (fun ns h => ⟨_, DL.K77.e_law ns h⟩) ?F
    intro w mg fa h Y G hmg0
    obtain ⟨K, KX, c⟩ := Y
    have hmg : mg ("law" : PySem.Str) = some (.ref fa) := by
      have e : (HandSHeadRun.topDef (OpenLaw.row PySem.Challenge.rw_onelinekept_k77_halves_bear_place_number).prog 27).name = ("law" : PySem.Str) := by kernel_rfl
      rw [← e]
      exact hmg0
    obtain ⟨fd, hb, hF⟩ := DL.K77.facts (P := (PySem.Challenge.rw_onelinekept_k77_halves_bear_place_number).prog) (w := w) KX G hmg c
    exact ⟨K, fd, KX, hb, hF⟩
