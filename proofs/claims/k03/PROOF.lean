import PyProof.Rows.All
import Wide.All
import OpenK.AllK
import Wide.FinOn
import HandS.ForMost
import HandS.Wide
import HandS.Style
import HandS.TupAny
import HandS.NoneIn
import HandS.Conv
import HandS.Codes
import HandS.IsInst
import HandS.WideBits
import HandS.Zip
import KE.DataMinMax
import KE.SortData
import KE.DataCmp
import KE.DataEq
import HandS.TupMul
import KE.KTupSum
import HandS.TupLen
import HandS.RaiseMore
import HandS.SetFor
import HandS.Strs
import PySem.Challenge.RW_windheld_k03_whole_known_patches_on_a_ro
set_option Elab.async false
set_option linter.all false
set_option maxRecDepth 100000
set_option maxHeartbeats 4000000
namespace WH
open PySem PySem.Spec PyProof.Rows L2

abbrev D := PySem.PyData
abbrev Frag := PySem.W.Frag

/-! ## data against the abstract heap -/
def kD : Key → D
  | .inl i => .int i
  | .inr x => .str x
def notTup : HO → Prop
  | .tup _ => False
  | _ => True
/-- u is to be read at a (a tuple: as it is) -/
def Rx (F : Hp) (a : Addr) (u : HO) : Prop := F a = some u ∨ ∃ o, F a = some (.frz o u) ∧ notTup u
theorem Rx.rd {F : Hp} {a : Addr} {u : HO} (h : Rx F a u) : Rd F a u := h.imp id fun ⟨o, q, _⟩ => ⟨o, q⟩
theorem Rx.tup {F : Hp} {a : Addr} {xs : List V} (h : Rx F a (.tup xs)) : F a = some (.tup xs) := by
  rcases h with h | ⟨_, _, h⟩
  · exact h
  · exact h.elim
/-- everything of F is to be read in H -/
def Sb (F H : Hp) : Prop := ∀ a u, Rx F a u → Rx H a u
theorem Sb.refl (F : Hp) : Sb F F := fun _ _ h => h
theorem Sb.trans {F G H : Hp} (a : Sb F G) (b : Sb G H) : Sb F H := fun c u h => b c u (a c u h)
theorem Sb.none {F H : Hp} (h : Sb F H) {a : Addr} (n : H a = .none) : F a = .none := by
  cases e : F a with
  | none => rfl
  | some u =>
    rcases h a u (.inl e) with q | ⟨o, q, _⟩ <;> (rw [n] at q; cases q)
theorem Rd.there {H : Hp} {a : Addr} {u : HO} (h : Rx H a u) : H a ≠ .none := by
  rcases h with q | ⟨o, q, _⟩ <;> (rw [q]; exact fun z => nomatch z)

mutual
inductive RD (K : Frag) (F : Hp) : V → D → Prop
  | non : RD K F .non .none
  | bl (b : Bool) : RD K F (.bl b) (.bool b)
  | int (i : Int) : RD K F (.int i) (.int i)
  | str (x : Str) : RD K F (.str x) (.str x)
  | lst {a : Addr} {xs : List V} {ds : List D} : Rx F a (.lst xs) → RDs K F xs ds → RD K F (.ref a) (.list ds)
  | tup {a : Addr} {xs : List V} {ds : List D} : F a = some (.tup xs) → RDs K F xs ds → RD K F (.ref a) (.tuple ds)
  | dk {a : Addr} {kvs : List (Key × V)} {ps : List (D × D)} : Rx F a (.dK kvs) → RDk K F kvs ps → RD K F (.ref a) (.dict ps)
  | dt {a : Addr} {kvs : List (List Key × V)} {ps : List (D × D)} : Rx F a (.dT kvs) → RDt K F kvs ps → RD K F (.ref a) (.dict ps)
inductive RDs (K : Frag) (F : Hp) : List V → List D → Prop
  | nil : RDs K F [] []
  | cons {v : V} {d : D} {vs : List V} {ds : List D} : RD K F v d → RDs K F vs ds → RDs K F (v :: vs) (d :: ds)
inductive RDk (K : Frag) (F : Hp) : List (Key × V) → List (D × D) → Prop
  | nil : RDk K F [] []
  | cons {k : Key} {v : V} {d : D} {kvs : List (Key × V)} {ps : List (D × D)} : RD K F v d → RDk K F kvs ps → RDk K F ((k, v) :: kvs) ((kD k, d) :: ps)
inductive RDt (K : Frag) (F : Hp) : List (List Key × V) → List (D × D) → Prop
  | nil : RDt K F [] []
  | cons {k : List Key} {v : V} {d : D} {kvs : List (List Key × V)} {ps : List (D × D)} : RD K F v d → RDt K F kvs ps → RDt K F ((k, v) :: kvs) ((.tuple (k.map kD), d) :: ps)
end
mutual
theorem RD.mono {K : Frag} {F G : Hp} (h : Sb F G) : ∀ {v : V} {d : D}, RD K F v d → RD K G v d
  | _, _, .non => .non
  | _, _, .bl b => .bl b
  | _, _, .int b => .int b
  | _, _, .str b => .str b
  | _, _, .lst q r => .lst (h _ _ q) (RDs.mono h r)
  | _, _, .tup q r => .tup (h _ _ (.inl q)).tup (RDs.mono h r)
  | _, _, .dk q r => .dk (h _ _ q) (RDk.mono h r)
  | _, _, .dt q r => .dt (h _ _ q) (RDt.mono h r)
theorem RDs.mono {K : Frag} {F G : Hp} (h : Sb F G) : ∀ {v : List V} {d : List D}, RDs K F v d → RDs K G v d
  | _, _, .nil => .nil
  | _, _, .cons q r => .cons (RD.mono h q) (RDs.mono h r)
theorem RDk.mono {K : Frag} {F G : Hp} (h : Sb F G) : ∀ {v : List (Key × V)} {d : List (D × D)}, RDk K F v d → RDk K G v d
  | _, _, .nil => .nil
  | _, _, .cons q r => .cons (RD.mono h q) (RDk.mono h r)
theorem RDt.mono {K : Frag} {F G : Hp} (h : Sb F G) : ∀ {v : List (List Key × V)} {d : List (D × D)}, RDt K F v d → RDt K G v d
  | _, _, .nil => .nil
  | _, _, .cons q r => .cons (RD.mono h q) (RDt.mono h r)
end
theorem RDs.length {K : Frag} {F : Hp} : ∀ {vs : List V} {ds : List D}, RDs K F vs ds → vs.length = ds.length
  | _, _, .nil => rfl
  | _, _, .cons _ r => by rw [List.length_cons, List.length_cons, RDs.length r]
theorem RDs.get {K : Frag} {F : Hp} : ∀ {vs : List V} {ds : List D} {i : Nat} {d : D}, RDs K F vs ds → ds[i]? = some d → ∃ v, vs[i]? = some v ∧ RD K F v d
  | _, _, _, _, .nil, h => by simp at h
  | _, _, 0, _, .cons q _, h => by simp at h; subst h; exact ⟨_, rfl, q⟩
  | _, _, i + 1, _, .cons _ r, h => by
    obtain ⟨v, e, q⟩ := RDs.get (i := i) r (by simpa using h)
    exact ⟨v, by simpa using e, q⟩
theorem RDs.append {K : Frag} {F : Hp} : ∀ {vs ws : List V} {ds es : List D}, RDs K F vs ds → RDs K F ws es → RDs K F (vs ++ ws) (ds ++ es)
  | _, _, _, _, .nil, h => h
  | _, _, _, _, .cons q r, h => .cons q (RDs.append r h)
theorem RDs.take {K : Frag} {F : Hp} : ∀ {vs : List V} {ds : List D} (n : Nat), RDs K F vs ds → RDs K F (vs.take n) (ds.take n)
  | _, _, 0, _ => by simpa using RDs.nil
  | _, _, _ + 1, .nil => .nil
  | _, _, n + 1, .cons q r => .cons q (RDs.take n r)
theorem RDs.drop {K : Frag} {F : Hp} : ∀ {vs : List V} {ds : List D} (n : Nat), RDs K F vs ds → RDs K F (vs.drop n) (ds.drop n)
  | _, _, 0, h => h
  | _, _, _ + 1, .nil => .nil
  | _, _, n + 1, .cons _ r => RDs.drop n r
theorem RDs.reverse {K : Frag} {F : Hp} : ∀ {vs : List V} {ds : List D}, RDs K F vs ds → RDs K F vs.reverse ds.reverse
  | _, _, .nil => .nil
  | _, _, .cons q r => by rw [List.reverse_cons, List.reverse_cons]; exact (RDs.reverse r).append (.cons q .nil)
theorem RDs.eraseIdx {K : Frag} {F : Hp} : ∀ {vs : List V} {ds : List D} (n : Nat), RDs K F vs ds → RDs K F (vs.eraseIdx n) (ds.eraseIdx n)
  | _, _, _, .nil => .nil
  | _, _, 0, .cons _ r => r
  | _, _, n + 1, .cons q r => .cons q (RDs.eraseIdx n r)
theorem RDs.set {K : Frag} {F : Hp} {v : V} {d : D} (h : RD K F v d) : ∀ {vs : List V} {ds : List D} (n : Nat), RDs K F vs ds → RDs K F (vs.set n v) (ds.set n d)
  | _, _, _, .nil => .nil
  | _, _, 0, .cons _ r => .cons h r
  | _, _, n + 1, .cons q r => .cons q (RDs.set h n r)
theorem RDs.rep {K : Frag} {F : Hp} {vs : List V} {ds : List D} (h : RDs K F vs ds) : ∀ n : Nat, RDs K F (List.replicate n vs).flatten (List.replicate n ds).flatten
  | 0 => .nil
  | n + 1 => by
    rw [List.replicate_succ, List.replicate_succ, List.flatten_cons, List.flatten_cons]
    exact h.append (RDs.rep h n)
theorem RDs.ints {K : Frag} {F : Hp} : ∀ {vs : List V} {ns : List Int}, RDs K F vs (ns.map .int) → vs = ns.map V.int
  | _, [], .nil => rfl
  | _, n :: ns, .cons q r => by cases q; rw [RDs.ints r] <;> rfl
theorem RDs.of_ints {K : Frag} {F : Hp} : ∀ ns : List Int, RDs K F (ns.map V.int) (ns.map .int)
  | [] => .nil
  | n :: ns => .cons (.int n) (RDs.of_ints ns)

/-! ## data to the library's Dp (no dict within) -/
mutual
theorem RD.dp {K : Frag} {H : Hp} : ∀ (d : D) {v : V}, RD K H v d → d.plain = true → Dp K H v d
  | .none, _, .non, _ => .non
  | .bool _, _, .bl b, _ => .bl b
  | .int _, _, .int i, _ => .int i
  | .str _, _, .str x, _ => .str x
  | .list ds, _, .lst q r, h => .lst (.inl q.rd) (RDs.dp ds r (by simpa [PyData.plain] using h))
  | .tuple ds, _, .tup q r, h => .tup (.of q) (RDs.dp ds r (by simpa [PyData.plain] using h))
theorem RDs.dp {K : Frag} {H : Hp} : ∀ (ds : List D) {vs : List V}, RDs K H vs ds → PyData.plainAll ds = true → DpAll K H vs ds
  | [], _, .nil, _ => .nil
  | d :: ds, _, .cons q r, h => by
    have h' : d.plain = true ∧ PyData.plainAll ds = true := by simpa [PyData.plainAll] using h
    exact .cons (RD.dp d q h'.1) (RDs.dp ds r h'.2)
end
end WH

namespace WH
open PySem PySem.Spec PyProof.Rows L2

/-! ## slots -/
inductive Sl where
  | fr (d : D)
  | ol (ds : List D)
  | od (tk : Bool) (ps : List (D × D))
  | ww
  | ks (ns : List Int)
abbrev En := List (Option Sl)
def eget : En → Nat → Option Sl
  | [], _ => none
  | x :: _, 0 => x
  | _ :: r, i + 1 => eget r i
def eset : En → Nat → Option Sl → En
  | [], _, _ => []
  | _ :: r, 0, v => v :: r
  | x :: r, i + 1, v => x :: eset r i v
theorem eget_eset_same : ∀ {ρ : En} {i : Nat} {v : Option Sl}, i < ρ.length → eget (eset ρ i v) i = v
  | [], _, _, h => by simp at h
  | _ :: _, 0, _, _ => rfl
  | _ :: r, i + 1, v, h => eget_eset_same (ρ := r) (i := i) (by simpa using h)
theorem eget_eset_ne : ∀ {ρ : En} {i j : Nat} {v : Option Sl}, i ≠ j → eget (eset ρ i v) j = eget ρ j
  | [], _, _, _, _ => rfl
  | _ :: _, 0, 0, _, h => absurd rfl h
  | _ :: _, 0, j + 1, _, _ => rfl
  | _ :: _, i + 1, 0, _, _ => rfl
  | _ :: r, i + 1, j + 1, v, h => eget_eset_ne (ρ := r) (i := i) (j := j) (by omega)
theorem eset_length : ∀ {ρ : En} {i : Nat} {v : Option Sl}, (eset ρ i v).length = ρ.length
  | [], _, _ => rfl
  | _ :: _, 0, _ => rfl
  | _ :: r, i + 1, v => by rw [eset, List.length_cons, List.length_cons, eset_length]
theorem eget_lt : ∀ {ρ : En} {i : Nat} {s : Sl}, eget ρ i = some s → i < ρ.length
  | [], _, _, h => by simp [eget] at h
  | _ :: _, 0, _, _ => by simp
  | _ :: r, i + 1, s, h => by
    have := eget_lt (ρ := r) (i := i) (s := s) h
    rw [List.length_cons]; omega

def Sl.toD : Sl → Option D
  | .fr d => some d
  | .ol ds => some (.list ds)
  | .od _ ps => some (.dict ps)
  | .ww => none
  | .ks _ => none
def Sl.own : Sl → Bool
  | .ol _ => true
  | .od _ _ => true
  | _ => false

/-- a dict object of this content -/
def DO (K : Frag) (F : Hp) (tk : Bool) (o : HO) (ps : List (D × D)) : Prop :=
  match tk with
  | false => ∃ kvs, o = .dK kvs ∧ RDk K F kvs ps
  | true => ∃ kvs, o = .dT kvs ∧ RDt K F kvs ps
/-- a list that stands frozen, or in the written part -/
def KSq (K : Frag) (H : Hp) (a : Addr) (xs : List V) : Prop := (∃ o, H a = some (.frz o (.lst xs))) ∨ ∃ (o : Obj) (its : Array Value) (n : Nat), K.lookup a = some o ∧ o.cls = .type "list" ∧ o.dict = none ∧ o.data = .seq its n ∧ its.size ≤ sizeLine ∧ Vals xs its.toList
/-- what a slot holds -/
def SR (K : Frag) (wa : Option Addr) (F H : Hp) : Sl → V → Prop
  | .fr d, v => RD K F v d
  | .ol ds, v => ∃ a xs, v = .ref a ∧ wa ≠ some a ∧ F a = none ∧ H a = some (.lst xs) ∧ RDs K F xs ds
  | .od tk ps, v => ∃ a o, v = .ref a ∧ wa ≠ some a ∧ F a = none ∧ Rx H a o ∧ DO K F tk o ps
  | .ww, v => ∃ a, wa = some a ∧ v = .ref a
  | .ks ns, v => ∃ a, v = .ref a ∧ wa ≠ some a ∧ KSq K H a (ns.map V.int)
/-- nothing stands there, or a tuple -/
def Fre (H : Hp) (a : Addr) : Prop := H a = none ∨ ∃ xs, H a = some (.tup xs)
theorem Fre.not {H : Hp} {a : Addr} {o : HO} (h : Rx H a o) (n : notTup o) : ¬ Fre H a := fun f => by
  rcases f with f | ⟨xs, f⟩
  · exact Rd.there h f
  · rcases h with h | ⟨ob, h, _⟩
    · rw [h] at f; cases f; exact n
    · rw [h] at f; cases f
theorem DO.notTup {K : Frag} {F : Hp} {tk : Bool} {o : HO} {ps : List (D × D)} (h : DO K F tk o ps) : notTup o := by
  cases tk with
  | false => obtain ⟨kvs, rfl, _⟩ := h; exact trivial
  | true => obtain ⟨kvs, rfl, _⟩ := h; exact trivial
theorem SR.there {K : Frag} {wa : Option Addr} {F H : Hp} {s : Sl} {v : V} (h : SR K wa F H s v) (o : s.own = true) : ∃ a, v = .ref a ∧ wa ≠ some a ∧ F a = none ∧ ¬ Fre H a := by
  cases s with
  | fr d => cases o
  | ww => cases o
  | ks _ => cases o
  | ol ds =>
    obtain ⟨a, xs, rfl, w, f, e, _⟩ := h
    exact ⟨a, rfl, w, f, Fre.not (o := .lst xs) (.inl e) trivial⟩
  | od tk ps =>
    obtain ⟨a, o, rfl, w, f, e, d⟩ := h
    exact ⟨a, rfl, w, f, Fre.not e d.notTup⟩

/-! ## a step of an expression -/
/-- what may change besides: the draws' dict; nothing -/
abbrev Wx (wa : Option Addr) (a : Addr) : Prop := wa = some a
abbrev N0 : Addr → Prop := fun _ => False
structure Stp (ex : Addr → Prop) (F H F' H' : Hp) : Prop where
  kp : ∀ a u, ¬ ex a → H a = some u → H' a = some u
  kn : ∀ a, H a ≠ none → H' a ≠ none
  fx : ∀ a u, F a = some u → F' a = some u
  nw : ∀ a, F' a ≠ none → F a ≠ none ∨ Fre H a
  kt : ∀ a xs, H' a = some (.tup xs) → H a = none ∨ H a = some (.tup xs)
  ok : Sb F' H'
theorem sb_of {F F' : Hp} (h : ∀ a u, F a = some u → F' a = some u) : Sb F F' := fun a u r => by
  rcases r with r | ⟨ob, r, nt⟩
  · exact .inl (h a u r)
  · exact .inr ⟨ob, h a _ r, nt⟩
theorem Stp.sb {ex : Addr → Prop} {F H F' H' : Hp} (st : Stp ex F H F' H') : Sb F F' := sb_of st.fx
theorem Stp.refl {ex : Addr → Prop} {F H : Hp} (h : Sb F H) : Stp ex F H F H := ⟨fun _ _ _ e => e, fun _ e => e, fun _ _ e => e, fun _ e => .inl e, fun _ _ e => .inr e, h⟩
theorem Stp.trans {ex : Addr → Prop} {F H F1 H1 F2 H2 : Hp} (a : Stp ex F H F1 H1) (b : Stp ex F1 H1 F2 H2) : Stp ex F H F2 H2 where
  kp := fun c u w e => b.kp c u w (a.kp c u w e)
  kn := fun c e => b.kn c (a.kn c e)
  fx := fun c u e => b.fx c u (a.fx c u e)
  nw := fun c e => by
    rcases b.nw c e with q | q
    · exact a.nw c q
    · right
      cases z : H c with
      | none => exact .inl z
      | some u =>
        rcases q with q | ⟨xs, q⟩
        · exact absurd q (a.kn c (by rw [z]; exact fun y => nomatch y))
        · rcases a.kt c xs q with y | y
          · rw [z] at y; cases y
          · exact .inr ⟨xs, y⟩
  kt := fun c xs e => by
    rcases b.kt c xs e with q | q
    · left
      cases z : H c with
      | none => rfl
      | some u => exact absurd q (a.kn c (by rw [z]; exact fun y => nomatch y))
    · exact a.kt c xs q
  ok := b.ok
theorem Stp.wa {ex : Addr → Prop} {F H F' H' : Hp} (a : Stp N0 F H F' H') : Stp ex F H F' H' :=
  ⟨fun c u _ e => a.kp c u (fun z => nomatch z) e, a.kn, a.fx, a.nw, a.kt, a.ok⟩
theorem Stp.fnone {ex : Addr → Prop} {F H F' H' : Hp} (a : Stp ex F H F' H') {c : Addr} (h : F c = none) (h2 : ¬ Fre H c) : F' c = none := by
  cases e : F' c with
  | none => rfl
  | some u =>
    rcases a.nw c (by rw [e]; exact fun y => nomatch y) with q | q
    · exact absurd h q
    · exact absurd q h2
/-- a new object p, frozen at once -/
theorem Stp.new {ex : Addr → Prop} {F H : Hp} {p : Addr} {o : HO} (h : Sb F H) (hp : H p = none) : Stp ex F H (upd F p o) (upd H p o) where
  kp := fun a u _ e => by rw [upd_ne (ne_of_none e hp)]; exact e
  kn := fun a e => by
    unfold upd; split
    · exact fun z => nomatch z
    · exact e
  fx := fun a u e => by rw [upd_ne (ne_of_none e (h.none hp))]; exact e
  nw := fun a e => by
    by_cases z : a = p
    · exact .inr (.inl (z ▸ hp))
    · rw [upd_ne z] at e; exact .inl e
  kt := fun a xs e => by
    by_cases z : a = p
    · exact .inl (z ▸ hp)
    · rw [upd_ne z] at e; exact .inr e
  ok := fun a u r => by
    by_cases z : a = p
    · subst z
      rcases r with r | ⟨ob, r, nt⟩ <;> rw [upd_same] at r
      · exact .inl (by rw [upd_same]; exact r)
      · exact .inr ⟨ob, by rw [upd_same]; exact r, nt⟩
    · have r' : Rx F a u := by
        rcases r with r | ⟨ob, r, nt⟩ <;> rw [upd_ne z] at r
        · exact .inl r
        · exact .inr ⟨ob, r, nt⟩
      rcases h a u r' with r | ⟨ob, r, nt⟩
      · exact .inl (by rw [upd_ne z]; exact r)
      · exact .inr ⟨ob, by rw [upd_ne z]; exact r, nt⟩
/-- a new object p, not frozen -/
theorem Stp.raw {ex : Addr → Prop} {F H : Hp} {p : Addr} {o : HO} (h : Sb F H) (hp : H p = none) : Stp ex F H F (upd H p o) where
  kp := fun a u _ e => by rw [upd_ne (ne_of_none e hp)]; exact e
  kn := fun a e => by
    unfold upd; split
    · exact fun z => nomatch z
    · exact e
  fx := fun _ _ e => e
  nw := fun a e => .inl e
  kt := fun a xs e => by
    by_cases z : a = p
    · exact .inl (z ▸ hp)
    · rw [upd_ne z] at e; exact .inr e
  ok := fun a u r => by
    have z : a ≠ p := fun z => Rd.there (h a u r) (z ▸ hp)
    rcases h a u r with r | ⟨ob, r, nt⟩
    · exact .inl (by rw [upd_ne z]; exact r)
    · exact .inr ⟨ob, by rw [upd_ne z]; exact r, nt⟩
theorem DO.mono {K : Frag} {F G : Hp} {tk : Bool} {o : HO} {ps : List (D × D)} (h : Sb F G) (d : DO K F tk o ps) : DO K G tk o ps := by
  cases tk with
  | false => obtain ⟨kvs, e, r⟩ := d; exact ⟨kvs, e, r.mono h⟩
  | true => obtain ⟨kvs, e, r⟩ := d; exact ⟨kvs, e, r.mono h⟩
theorem SR.step {K : Frag} {wa : Option Addr} {F H F' H' : Hp} (a : Stp (Wx wa) F H F' H') : ∀ {s : Sl} {v : V}, SR K wa F H s v → SR K wa F' H' s v
  | .fr d, v, h => RD.mono a.sb h
  | .ol ds, v, h => by
    obtain ⟨c, xs, e, w, f, q, r⟩ := h
    exact ⟨c, xs, e, w, a.fnone f (Fre.not (o := .lst xs) (.inl q) trivial), a.kp c _ w q, r.mono a.sb⟩
  | .od tk ps, v, h => by
    obtain ⟨c, o, e, w, f, q, r⟩ := h
    refine ⟨c, o, e, w, a.fnone f (Fre.not q r.notTup), ?_, r.mono a.sb⟩
    rcases q with q | ⟨ob, q, nt⟩
    · exact .inl (a.kp c _ w q)
    · exact .inr ⟨ob, a.kp c _ w q, nt⟩
  | .ww, v, h => h
  | .ks ns, v, h => by
    obtain ⟨c, e, w, q⟩ := h
    exact ⟨c, e, w, q.imp (fun ⟨o, q⟩ => ⟨o, a.kp c _ w q⟩) id⟩

/-! ## the draws -/
/-- the draws' dict at wa: the list of draws, how many are taken -/
def WOk (K : Frag) (o : Nat → Int) (F H : Hp) (n : Nat) : Option Addr → Prop
  | none => True
  | some a => F a = none ∧ ∃ (la : Addr) (ds : List Int), H a = some (.dK [(.inr "draws", .ref la), (.inr "at", .int n)]) ∧ Rx F la (.lst (ds.map V.int)) ∧ ds.length ≤ 1000 ∧ ∀ m, o m = (ds[m]?).getD 0
theorem WOk.step {K : Frag} {o : Nat → Int} {wa : Option Addr} {F H F' H' : Hp} {n : Nat} (a : Stp N0 F H F' H') (h : WOk K o F H n wa) : WOk K o F' H' n wa := by
  cases wa with
  | none => exact True.intro
  | some c =>
    obtain ⟨f, la, ds, e, q, r⟩ := h
    exact ⟨a.fnone f (Fre.not (.inl e) trivial), la, ds, a.kp c _ (fun z => nomatch z) e, a.sb _ _ q, r⟩

/-! ## the environment -/
structure ER (K : Frag) (wa : Option Addr) (o : Nat → Int) (F : Hp) (ρ : En) (σ : L2.St) (H : Hp) (n : Nat) : Prop where
  sb : Sb F H
  sl : ∀ i s, eget ρ i = some s → ∃ v, σ[i]? = some (some v) ∧ SR K wa F H s v
  ap : ∀ i j s t a, i ≠ j → eget ρ i = some s → eget ρ j = some t → s.own = true → t.own = true → σ[i]? = some (some (.ref a)) → σ[j]? ≠ some (some (.ref a))
  ww : WOk K o F H n wa
  len : ρ.length = σ.length
theorem ER.step {K : Frag} {wa : Option Addr} {o : Nat → Int} {F H F' H' : Hp} {ρ : En} {σ : L2.St} {n n' : Nat} (e : ER K wa o F ρ σ H n) (a : Stp (Wx wa) F H F' H') (w : WOk K o F' H' n' wa) : ER K wa o F' ρ σ H' n' :=
  ⟨a.ok, fun i s h => let ⟨v, h1, h2⟩ := e.sl i s h; ⟨v, h1, h2.step a⟩, e.ap, w, e.len⟩
theorem ER.step0 {K : Frag} {wa : Option Addr} {o : Nat → Int} {F H F' H' : Hp} {ρ : En} {σ : L2.St} {n : Nat} (e : ER K wa o F ρ σ H n) (a : Stp N0 F H F' H') : ER K wa o F' ρ σ H' n :=
  e.step a.wa (e.ww.step a)

/-! ## what an expression gives -/
inductive Fr where
  | no
  | own (tk : Bool)
def mkS : Fr → D → Sl
  | .own _, .list ds => .ol ds
  | .own tk, .dict ps => .od tk ps
  | _, d => .fr d
theorem mkS_toD (f : Fr) (d : D) : (mkS f d).toD = some d := by
  cases f with
  | no => rfl
  | own tk => cases d <;> rfl
/-- a value that is known as d; an own one is new since H0 -/
def RK (K : Frag) (wa : Option Addr) (f : Fr) (F H H0 : Hp) (v : V) (d : D) : Prop :=
  SR K wa F H (mkS f d) v ∧ ((mkS f d).own = true → ∃ a, v = .ref a ∧ H0 a = none ∧ ∃ o, H a = some o ∧ (∀ ob u, o ≠ .frz ob u))
abbrev Den := En → Nat → Option (D × Nat)
abbrev DenB := En → Nat → Option (Sl × Nat)
def nl (lk : List Nat) (ρ : En) : Prop := ∀ i ∈ lk, ∀ s, eget ρ i = some s → s.own = false
def tI (K : Frag) (wa : Option Addr) (o : Nat → Int) (lk : List Nat) (fr : Fr) (f : Den) : TE := fun σ H Q => ∃ F ρ n d n', ER K wa o F ρ σ H n ∧ nl lk ρ ∧ f ρ n = some (d, n') ∧
  ∀ v F' H', Stp (Wx wa) F H F' H' → ER K wa o F' ρ σ H' n' → RK K wa fr F' H' H v d → Q v H'
def tB (K : Frag) (wa : Option Addr) (o : Nat → Int) (lk : List Nat) (f : DenB) : TE := fun σ H Q => ∃ F ρ n s n', ER K wa o F ρ σ H n ∧ nl lk ρ ∧ f ρ n = some (s, n') ∧
  ∀ v F' H', Stp (Wx wa) F H F' H' → ER K wa o F' ρ σ H' n' → SR K wa F' H' s v → Q v H'
def tT (K : Frag) (wa : Option Addr) (o : Nat → Int) (lk : List Nat) (f : Den) : TT := fun σ H Q => ∃ F ρ n b n', ER K wa o F ρ σ H n ∧ nl lk ρ ∧ f ρ n = some (.bool b, n') ∧
  ∀ F' H', Stp (Wx wa) F H F' H' → ER K wa o F' ρ σ H' n' → Q b H'
def tA (K : Frag) (wa : Option Addr) (o : Nat → Int) (lk : List Nat) (f : En → Nat → Option (List D × Nat)) : TA := fun σ H Q => ∃ F ρ n ds n', ER K wa o F ρ σ H n ∧ nl lk ρ ∧ f ρ n = some (ds, n') ∧
  ∀ vs F' H', Stp (Wx wa) F H F' H' → ER K wa o F' ρ σ H' n' → RDs K F' vs ds → Q vs H'
def tAB (K : Frag) (wa : Option Addr) (o : Nat → Int) (lk : List Nat) (f : En → Nat → Option (List Sl × Nat)) : TA := fun σ H Q => ∃ F ρ n ds n', ER K wa o F ρ σ H n ∧ nl lk ρ ∧ f ρ n = some (ds, n') ∧
  ∀ vs F' H', Stp (Wx wa) F H F' H' → ER K wa o F' ρ σ H' n' → Paired (fun v s => SR K wa F' H' s v) vs ds → Q vs H'
/-- the context of the draws -/
structure Dc where
  wa : Option Addr
  o : Nat → Int
structure EX (X : Cx) (c : Dc) (e : Expr) (lk : List Nat) (fr : Fr) (f : Den) : Prop where
  run : PE X e (tI X.K c.wa c.o lk fr f)
structure EB (X : Cx) (c : Dc) (e : Expr) (lk : List Nat) (f : DenB) : Prop where
  run : PE X e (tB X.K c.wa c.o lk f)
structure ET (X : Cx) (c : Dc) (e : Expr) (lk : List Nat) (f : Den) : Prop where
  run : PT X e (tT X.K c.wa c.o lk f)
structure EA (X : Cx) (c : Dc) (es : List Expr) (lk : List Nat) (f : En → Nat → Option (List D × Nat)) : Prop where
  run : PA X es (tA X.K c.wa c.o lk f)
structure EAB (X : Cx) (c : Dc) (es : List Expr) (lk : List Nat) (f : En → Nat → Option (List Sl × Nat)) : Prop where
  run : PA X es (tAB X.K c.wa c.o lk f)
theorem pe_weak {X : Cx} {e : Expr} {t t' : TE} (h : PE X e t) (w : ∀ σ H Q, t' σ H Q → t σ H Q) : PE X e t' := ⟨fun pins s σ H Q I q => h.run pins s σ H Q I (w σ H Q q)⟩
theorem pt_weak {X : Cx} {e : Expr} {t t' : TT} (h : PT X e t) (w : ∀ σ H Q, t' σ H Q → t σ H Q) : PT X e t' := ⟨fun pins s σ H Q I q => h.run pins s σ H Q I (w σ H Q q)⟩
theorem pa_weak {X : Cx} {e : List Expr} {t t' : TA} (h : PA X e t) (w : ∀ σ H Q, t' σ H Q → t σ H Q) : PA X e t' := ⟨fun pos pins s σ H Q I q => h.run pos pins s σ H Q I (w σ H Q q)⟩
theorem nl_l {a b : List Nat} {ρ : En} (h : nl (a ++ b) ρ) : nl a ρ := fun i hi => h i (List.mem_append_left _ hi)
theorem nl_r {a b : List Nat} {ρ : En} (h : nl (a ++ b) ρ) : nl b ρ := fun i hi => h i (List.mem_append_right _ hi)

/-! ## freezing a new object -/
theorem Stp.freeze {ex : Addr → Prop} {F H F' H' : Hp} {a : Addr} {u : HO} (st : Stp ex F H F' H') (hn : H a = none) (hf : F' a = none) (e : H' a = some u) : Stp ex F H (upd F' a u) H' where
  kp := st.kp
  kn := st.kn
  fx := fun b o e => by rw [upd_ne (ne_of_none (st.fx b o e) hf)]; exact st.fx b o e
  nw := fun b q => by
    by_cases z : b = a
    · exact .inr (.inl (z ▸ hn))
    · rw [upd_ne z] at q; exact st.nw b q
  kt := st.kt
  ok := fun b o r => by
    by_cases z : b = a
    · subst z
      rcases r with r | ⟨ob, r, nt⟩ <;> rw [upd_same] at r
      · cases r; exact .inl e
      · cases r; exact .inr ⟨ob, e, nt⟩
    · refine st.ok b o ?_
      rcases r with r | ⟨ob, r, nt⟩ <;> rw [upd_ne z] at r
      · exact .inl r
      · exact .inr ⟨ob, r, nt⟩
theorem sb_upd {F : Hp} {a : Addr} {u : HO} (h : F a = none) : Sb F (upd F a u) := fun b o r => by
  have z : b ≠ a := fun z => Rd.there r (z ▸ h)
  rcases r with r | ⟨ob, r, nt⟩
  · exact .inl (by rw [upd_ne z]; exact r)
  · exact .inr ⟨ob, by rw [upd_ne z]; exact r, nt⟩
/-- the environment stays when an object that is no slot's own is frozen -/
theorem ER.freeze {K : Frag} {wa : Option Addr} {o : Nat → Int} {F H : Hp} {ρ : En} {σ : L2.St} {n : Nat} {a : Addr} {u : HO} (E : ER K wa o F ρ σ H n) (hf : F a = none) (e : Rx H a u) (hu : ∀ ob w, u ≠ .frz ob w)
    (hw : wa ≠ some a) (hs : ∀ i s, eget ρ i = some s → s.own = true → σ[i]? ≠ some (some (.ref a))) : ER K wa o (upd F a u) ρ σ H n := by
  have sb := sb_upd (u := u) hf
  refine ⟨fun b o' r => ?_, fun i s h => ?_, E.ap, ?_, E.len⟩
  · by_cases z : b = a
    · subst z
      rcases r with r | ⟨ob, r, nt⟩ <;> rw [upd_same] at r
      · cases r; exact e
      · cases r; exact absurd rfl (hu _ _)
    · refine E.sb b o' ?_
      rcases r with r | ⟨ob, r, nt⟩ <;> rw [upd_ne z] at r
      · exact .inl r
      · exact .inr ⟨ob, r, nt⟩
  · obtain ⟨v, h1, h2⟩ := E.sl i s h
    refine ⟨v, h1, ?_⟩
    cases s with
    | fr d => exact RD.mono sb h2
    | ww => exact h2
    | ks _ => exact h2
    | ol ds =>
      obtain ⟨c, xs, rfl, w, f, q, r⟩ := h2
      have z : c ≠ a := fun z => hs i _ h rfl (z ▸ h1)
      exact ⟨c, xs, rfl, w, by rw [upd_ne z]; exact f, q, r.mono sb⟩
    | od tk ps =>
      obtain ⟨c, o', rfl, w, f, q, r⟩ := h2
      have z : c ≠ a := fun z => hs i _ h rfl (z ▸ h1)
      exact ⟨c, o', rfl, w, by rw [upd_ne z]; exact f, q, r.mono sb⟩
  · have w := E.ww
    cases wa with
    | none => exact True.intro
    | some c =>
      obtain ⟨f, la, ds, q, r, z⟩ := w
      have z' : c ≠ a := fun e => hw (by rw [e])
      exact ⟨by rw [upd_ne z']; exact f, la, ds, q, sb _ _ r, z⟩
/-- an own value, frozen, is known as d -/
theorem RK.freeze {K : Frag} {wa : Option Addr} {o : Nat → Int} {F H F' H' : Hp} {ρ : En} {σ : L2.St} {n n' : Nat} {f : Fr} {v : V} {d : D} (E : ER K wa o F ρ σ H n) (st : Stp (Wx wa) F H F' H') (E' : ER K wa o F' ρ σ H' n') (r : RK K wa f F' H' H v d) :
    ∃ F2, Stp (Wx wa) F H F2 H' ∧ ER K wa o F2 ρ σ H' n' ∧ RD K F2 v d := by
  obtain ⟨h1, h2⟩ := r
  have hs : ∀ a, H a = none → ∀ i s, eget ρ i = some s → s.own = true → σ[i]? ≠ some (some (.ref a)) := fun a ha i s h ho q => by
    obtain ⟨v', q1, q2⟩ := E.sl i s h
    obtain ⟨b, rfl, _, _, q5⟩ := q2.there ho
    rw [q1] at q
    cases q
    exact q5 (.inl ha)
  generalize hm : mkS f d = s at h1 h2
  have htd : s.toD = some d := by rw [← hm]; exact mkS_toD f d
  cases s with
  | fr d' => cases htd; exact ⟨F', st, E', h1⟩
  | ww => cases htd
  | ks _ => cases htd
  | ol ds =>
    cases htd
    obtain ⟨a, xs, rfl, w, hf, e, q⟩ := h1
    obtain ⟨a', ea, ha, _⟩ := h2 rfl
    cases ea
    exact ⟨upd F' a (.lst xs), st.freeze ha hf e, E'.freeze hf (.inl e) (fun _ _ z => nomatch z) w (hs a ha), .lst (.inl upd_same) (q.mono (sb_upd hf))⟩
  | od tk ps =>
    cases htd
    obtain ⟨a, o', rfl, w, hf, e, q⟩ := h1
    obtain ⟨a', ea, ha, o2, e2, hno⟩ := h2 rfl
    cases ea
    have e3 : H' a = some o' := by
      rcases e with e | ⟨ob, e, _⟩
      · exact e
      · rw [e] at e2; cases e2; exact absurd rfl (hno _ _)
    have eo : o2 = o' := by rw [e3] at e2; cases e2; rfl
    subst eo
    refine ⟨upd F' a o2, st.freeze ha hf e3, E'.freeze hf (.inl e3) hno w (hs a ha), ?_⟩
    have q' := q.mono (sb_upd (u := o2) hf)
    cases tk with
    | false => obtain ⟨kvs, rfl, r⟩ := q'; exact .dk (.inl upd_same) r
    | true => obtain ⟨kvs, rfl, r⟩ := q'; exact .dt (.inl upd_same) r
section
variable {X : Cx} {c : Dc} {e : Expr} {es : List Expr} {lk lk' : List Nat} {fr : Fr} {f : Den}
theorem EX.fz (h : EX X c e lk fr f) : EX X c e lk .no f := ⟨pe_weak h.run fun σ H Q ⟨F, ρ, n, d, n', E, hl, hf, q⟩ => ⟨F, ρ, n, d, n', E, hl, hf, fun v F' H' st E' r => by
  obtain ⟨F2, st2, E2, r2⟩ := r.freeze E st E'
  exact q v F2 H' st2 E2 ⟨r2, fun z => nomatch z⟩⟩⟩
def dB (f : Den) : DenB := fun ρ n => (f ρ n).map fun p => (.fr p.1, p.2)
def dD (g : DenB) : Den := fun ρ n => (g ρ n).bind fun p => p.1.toD.map (·, p.2)
/-- a borrowed value -/
theorem EX.b (h : EX X c e lk fr f) : EB X c e lk (dB f) := ⟨pe_weak h.fz.run fun σ H Q ⟨F, ρ, n, s, n', E, hl, hf, q⟩ => by
  unfold dB at hf
  cases ef : f ρ n with
  | none => rw [ef] at hf; cases hf
  | some p =>
    rw [ef] at hf
    cases hf
    exact ⟨F, ρ, n, p.1, p.2, E, hl, ef, fun v F' H' st E' r => q v F' H' st E' r.1⟩⟩
def dVarB (i : Nat) : DenB := fun ρ n => (eget ρ i).map (·, n)
def dVar (i : Nat) : Den := fun ρ n => (eget ρ i).bind fun s => s.toD.map (·, n)
theorem EB_var {i : Nat} {x : Str} {pos : Pos} (hN : X.N[i]? = some x) (hv : Vis X.env.scope x) (hd : (x == ("__debug__" : Str)) = false) (hcd : (x == ("__classdict__" : Str)) = false) : EB X c (.Name x pos) [] (dVarB i) :=
  ⟨pe_weak (pe_var hN hv hd hcd) fun σ H Q ⟨F, ρ, n, s, n', E, hl, hf, q⟩ => by
    unfold dVarB at hf
    cases es : eget ρ i with
    | none => rw [es] at hf; cases hf
    | some s' =>
      rw [es] at hf
      cases hf
      obtain ⟨v, h1, h2⟩ := E.sl i _ es
      exact ⟨v, h1, q v F H (.refl E.sb) E h2⟩⟩
theorem EX_var {i : Nat} {x : Str} {pos : Pos} (hN : X.N[i]? = some x) (hv : Vis X.env.scope x) (hd : (x == ("__debug__" : Str)) = false) (hcd : (x == ("__classdict__" : Str)) = false) : EX X c (.Name x pos) [i] .no (dVar i) :=
  ⟨pe_weak (pe_var hN hv hd hcd) fun σ H Q ⟨F, ρ, n, d, n', E, hl, hf, q⟩ => by
    unfold dVar at hf
    cases es : eget ρ i with
    | none => rw [es] at hf; cases hf
    | some s =>
      rw [es] at hf
      obtain ⟨v, h1, h2⟩ := E.sl i _ es
      have ho := hl i (by simp) s es
      cases s with
      | fr d' => cases hf; exact ⟨v, h1, q v F H (.refl E.sb) E ⟨h2, fun z => nomatch z⟩⟩
      | ol ds => cases ho
      | od tk ps => cases ho
      | ww => cases hf
      | ks _ => cases hf⟩
def dLit (d : D) : Den := fun _ n => some (d, n)
theorem EX_lit {v : V} {d : D} (h : PE X e (tC v)) (r : ∀ F, RD X.K F v d) (hm : ∀ f, mkS f d = .fr d) : EX X c e [] .no (dLit d) := ⟨pe_weak h fun σ H Q ⟨F, ρ, n, d', n', E, hl, hf, q⟩ => by
  cases hf
  exact q v F H (.refl E.sb) E ⟨r F, fun z => nomatch z⟩⟩
theorem EX_int {i : Int} {j : Nat} {pos : Pos} : EX X c (.Constant (.int i) j pos) [] .no (dLit (.int i)) := EX_lit pe_int (fun _ => .int i) fun f => by cases f <;> rfl
theorem EX_bool {i : Bool} {j : Nat} {pos : Pos} : EX X c (.Constant (.bool i) j pos) [] .no (dLit (.bool i)) := EX_lit pe_bl (fun _ => .bl i) fun f => by cases f <;> rfl
theorem EX_none {j : Nat} {pos : Pos} : EX X c (.Constant .none j pos) [] .no (dLit .none) := EX_lit pe_non (fun _ => .non) fun f => by cases f <;> rfl
theorem EX_str {x : Str} {j : Nat} {pos : Pos} : EX X c (.Constant (.str x) j pos) [] .no (dLit (.str x)) := EX_lit pe_str (fun _ => .str x) fun f => by cases f <;> rfl
end
end WH

namespace WH
open PySem PySem.Spec PyProof.Rows L2

/-! ## operands that are only looked at -/
inductive BR (K : Frag) (F H : Hp) : V → D → Prop
  | rd {v : V} {d : D} : RD K F v d → BR K F H v d
  | ol {a : Addr} {xs : List V} {ds : List D} : Rx H a (.lst xs) → RDs K F xs ds → BR K F H (.ref a) (.list ds)
  | dk {a : Addr} {kvs : List (Key × V)} {ps : List (D × D)} : Rx H a (.dK kvs) → RDk K F kvs ps → BR K F H (.ref a) (.dict ps)
  | dt {a : Addr} {kvs : List (List Key × V)} {ps : List (D × D)} : Rx H a (.dT kvs) → RDt K F kvs ps → BR K F H (.ref a) (.dict ps)
theorem SR.br {K : Frag} {wa : Option Addr} {F H : Hp} {s : Sl} {v : V} {d : D} (h : SR K wa F H s v) (e : s.toD = some d) : BR K F H v d := by
  cases s with
  | fr d' => cases e; exact .rd h
  | ww => cases e
  | ks _ => cases e
  | ol ds => cases e; obtain ⟨a, xs, rfl, _, _, q, r⟩ := h; exact .ol (.inl q) r
  | od tk ps =>
    cases e
    obtain ⟨a, o, rfl, _, _, q, r⟩ := h
    cases tk with
    | false => obtain ⟨kvs, rfl, r⟩ := r; exact .dk q r
    | true => obtain ⟨kvs, rfl, r⟩ := r; exact .dt q r
theorem BR.list {K : Frag} {F H : Hp} {v : V} {ds : List D} (sb : Sb F H) (h : BR K F H v (.list ds)) : ∃ a xs, v = .ref a ∧ Rd H a (.lst xs) ∧ RDs K F xs ds := by
  cases h with
  | rd h => cases h with | lst q r => exact ⟨_, _, rfl, (sb _ _ q).rd, r⟩
  | ol q r => exact ⟨_, _, rfl, q.rd, r⟩
theorem BR.tuple {K : Frag} {F H : Hp} {v : V} {ds : List D} (sb : Sb F H) (h : BR K F H v (.tuple ds)) : ∃ a xs, v = .ref a ∧ SqT K H a xs ∧ RDs K F xs ds := by
  cases h with
  | rd h => cases h with | tup q r => exact ⟨_, _, rfl, .of (sb _ _ (.inl q)).tup, r⟩
theorem BR.int {K : Frag} {F H : Hp} {v : V} {i : Int} (h : BR K F H v (.int i)) : v = .int i := by
  cases h with
  | rd h => cases h; rfl
theorem BR.bool {K : Frag} {F H : Hp} {v : V} {i : Bool} (h : BR K F H v (.bool i)) : v = .bl i := by
  cases h with
  | rd h => cases h; rfl
theorem BR.str {K : Frag} {F H : Hp} {v : V} {i : Str} (h : BR K F H v (.str i)) : v = .str i := by
  cases h with
  | rd h => cases h; rfl
theorem BR.none {K : Frag} {F H : Hp} {v : V} (h : BR K F H v .none) : v = .non := by
  cases h with
  | rd h => cases h; rfl
theorem BR.deep {K : Frag} {F H : Hp} {v : V} {d : D} (sb : Sb F H) (h : BR K F H v d) : RD K H v d := by
  cases h with
  | rd h => exact h.mono sb
  | ol q r => exact .lst q (r.mono sb)
  | dk q r => exact .dk q (r.mono sb)
  | dt q r => exact .dt q (r.mono sb)

/-- what an operation gives: a value known as d (an own one is new) -/
def RN (K : Frag) (f : Fr) (F H H0 : Hp) (v : V) (d : D) : Prop := RK K none f F H H0 v d
theorem RN.wa {K : Frag} {wa : Option Addr} {o : Nat → Int} {n : Nat} {f : Fr} {F H F0 H0 : Hp} {v : V} {d : D} (w : WOk K o F0 H0 n wa) (r : RN K f F H H0 v d) : RK K wa f F H H0 v d := by
  obtain ⟨h1, h2⟩ := r
  refine ⟨?_, h2⟩
  have htd := mkS_toD f d
  generalize mkS f d = s at h1 h2 htd
  have nw : ∀ a, H0 a = none → wa ≠ some a := fun a ha e => by
    subst e
    obtain ⟨_, la, ds, q, _⟩ := w
    rw [ha] at q; cases q
  cases s with
  | fr d => exact h1
  | ww => obtain ⟨a, e, _⟩ := h1; cases e
  | ks _ => cases htd
  | ol ds =>
    obtain ⟨a, xs, rfl, _, q⟩ := h1
    obtain ⟨a', e, n, _⟩ := h2 rfl
    cases e
    exact ⟨a, xs, rfl, nw a n, q⟩
  | od tk ps =>
    obtain ⟨a, o', rfl, _, q⟩ := h1
    obtain ⟨a', e, n, _⟩ := h2 rfl
    cases e
    exact ⟨a, o', rfl, nw a n, q⟩
theorem RN.of {K : Frag} {f : Fr} {F H H0 : Hp} {v : V} {d : D} (r : RD K F v d) (h : mkS f d = .fr d) : RN K f F H H0 v d := by
  unfold RN RK
  rw [h]
  exact ⟨r, fun z => nomatch z⟩
theorem RN.no {K : Frag} {F H H0 : Hp} {v : V} {d : D} (r : RD K F v d) : RN K .no F H H0 v d := .of r rfl
theorem RN.lst {K : Frag} {tk : Bool} {F H0 : Hp} {a : Addr} {xs : List V} {ds : List D} (sb : Sb F H0) (hn : H0 a = none) (r : RDs K F xs ds) : RN K (.own tk) F (upd H0 a (.lst xs)) H0 (.ref a) (.list ds) :=
  ⟨⟨a, xs, rfl, (fun z => nomatch z), sb.none hn, upd_same, r⟩, fun _ => ⟨a, rfl, hn, _, upd_same, fun _ _ z => nomatch z⟩⟩
theorem RN.dct {K : Frag} {tk : Bool} {F H0 : Hp} {a : Addr} {o : HO} {ps : List (D × D)} (sb : Sb F H0) (hn : H0 a = none) (r : DO K F tk o ps) : RN K (.own tk) F (upd H0 a o) H0 (.ref a) (.dict ps) := by
  refine ⟨⟨a, o, rfl, (fun z => nomatch z), sb.none hn, .inl upd_same, r⟩, fun _ => ⟨a, rfl, hn, _, upd_same, fun ob u z => ?_⟩⟩
  cases tk with
  | false => obtain ⟨kvs, e, _⟩ := r; rw [e] at z; cases z
  | true => obtain ⟨kvs, e, _⟩ := r; rw [e] at z; cases z
theorem RN.tup {K : Frag} {f : Fr} {F H H0 : Hp} {a : Addr} {xs : List V} {ds : List D} (hf : F a = none) (r : RDs K F xs ds) : RN K f (upd F a (.tup xs)) H H0 (.ref a) (.tuple ds) :=
  .of (.tup upd_same (r.mono (sb_upd hf))) (by cases f <;> rfl)

/-! ## operators by data -/
def rDD (K : Frag) (h : D → D → Option D) (fr : Fr) : R2 := fun x y H Q => ∃ F d e r, Sb F H ∧ BR K F H x d ∧ BR K F H y e ∧ h d e = some r ∧ ∀ v F' H', Stp N0 F H F' H' → RN K fr F' H' H v r → Q v H'
def bin2 (h : D → D → Option D) (f g : DenB) : Den := fun ρ n => (f ρ n).bind fun p => (g ρ p.2).bind fun q => p.1.toD.bind fun x => q.1.toD.bind fun y => (h x y).map (·, q.2)
theorem bin2_inv {h : D → D → Option D} {f g : DenB} {ρ : En} {n n' : Nat} {d : D} (e : bin2 h f g ρ n = some (d, n')) :
    ∃ s m t x y, f ρ n = some (s, m) ∧ g ρ m = some (t, n') ∧ s.toD = some x ∧ t.toD = some y ∧ h x y = some d := by
  unfold bin2 at e
  cases ef : f ρ n with
  | none => rw [ef] at e; cases e
  | some p =>
    rw [ef] at e
    simp only [Option.bind_some] at e
    cases eg : g ρ p.2 with
    | none => rw [eg] at e; cases e
    | some q =>
      rw [eg] at e
      simp only [Option.bind_some] at e
      cases e1 : p.1.toD with
      | none => rw [e1] at e; cases e
      | some x =>
        rw [e1] at e
        simp only [Option.bind_some] at e
        cases e2 : q.1.toD with
        | none => rw [e2] at e; cases e
        | some y =>
          rw [e2] at e
          simp only [Option.bind_some] at e
          cases e3 : h x y with
          | none => rw [e3] at e; cases e
          | some r =>
            rw [e3] at e
            cases e
            exact ⟨p.1, p.2, q.1, x, y, rfl, by rw [eg], e1, e2, e3⟩
section
variable {X : Cx} {c : Dc} {a b : Expr} {la lb : List Nat} {fa fb : DenB} {h : D → D → Option D} {fr : Fr} {pos : Pos}
/-- two operands, then what the operation gives -/
theorem two_weak {σ : L2.St} {H : Hp} {Q : VK} (q : tI X.K c.wa c.o (la ++ lb) fr (bin2 h fa fb) σ H Q) : tOp (rDD X.K h fr) (tB X.K c.wa c.o la fa) (tB X.K c.wa c.o lb fb) σ H Q := by
  obtain ⟨F, ρ, n, d, n', E, hl, hf, q⟩ := q
  obtain ⟨s, m, t, x, y, e1, e2, e3, e4, e5⟩ := bin2_inv hf
  refine ⟨F, ρ, n, s, m, E, nl_l hl, e1, fun v F1 H1 st1 E1 r1 => ⟨F1, ρ, m, t, n', E1, nl_r hl, e2, fun w F2 H2 st2 E2 r2 => ?_⟩⟩
  refine ⟨F2, x, y, d, E2.sb, (r1.step st2).br e3, r2.br e4, e5, fun u F3 H3 st3 r3 => ?_⟩
  refine q u F3 H3 ((st1.trans st2).trans st3.wa) (E2.step0 st3) ?_
  have r4 := r3.wa E2.ww
  refine ⟨r4.1, fun z => ?_⟩
  obtain ⟨a', e, hn, hh⟩ := r4.2 z
  refine ⟨a', e, ?_, hh⟩
  cases eH : H a' with
  | none => rfl
  | some u' => exact absurd hn ((st1.trans st2).kn a' (by rw [eH]; exact fun z => nomatch z))
theorem EX_bin {op : Operator} (ho : OpR X (binaryOp op) (rDD X.K h fr)) (ha : EB X c a la fa) (hb : EB X c b lb fb) : EX X c (.BinOp a op b pos) (la ++ lb) fr (bin2 h fa fb) :=
  ⟨pe_weak (pe_op ho ha.run hb.run) fun σ H Q q => two_weak q⟩
theorem EX_cmp {op : CmpOp} (ho : OpR X (compareOp op) (rDD X.K h fr)) (ha : EB X c a la fa) (hb : EB X c b lb fb) (hm : behindInMarks op b = false) : EX X c (.Compare a [op] [b] pos) (la ++ lb) fr (bin2 h fa fb) :=
  ⟨pe_weak (pe_cmpR ho ha.run hb.run hm) fun σ H Q q => two_weak q⟩
theorem EX_ix (ho : IxR X (rDD X.K h fr)) (ha : EB X c a la fa) (hb : EB X c b lb fb) (hs : PlainIx b) : EX X c (.Subscript a b pos) (la ++ lb) fr (bin2 h fa fb) :=
  ⟨pe_weak (pe_ix ho ha.run hb.run hs) fun σ H Q q => two_weak q⟩
/-- a value that is True or False, as a test -/
theorem tI_tT {f : Den} {σ : L2.St} {H : Hp} {Q : Bool → Hp → Prop} {lk : List Nat} (q : tT X.K c.wa c.o lk f σ H Q) : tI X.K c.wa c.o lk fr f σ H fun x H' => ∃ k, x = .bl k ∧ Q k H' := by
  obtain ⟨F, ρ, n, b, n', E, hl, hf, q⟩ := q
  refine ⟨F, ρ, n, _, n', E, hl, hf, fun v F' H' st E' r => ⟨b, ?_, q F' H' st E'⟩⟩
  have r1 := r.1
  have hm : mkS fr (.bool b) = .fr (.bool b) := by cases fr <;> rfl
  rw [hm] at r1
  cases (show RD X.K F' v (.bool b) from r1)
  rfl
theorem ET_cmp {op : CmpOp} (ho : OpR X (compareOp op) (rDD X.K h fr)) (ha : EB X c a la fa) (hb : EB X c b lb fb) (hm : behindInMarks op b = false) : ET X c (.Compare a [op] [b] pos) (la ++ lb) (bin2 h fa fb) :=
  ⟨pt_weak (pt_cmpR ho ha.run hb.run hm) fun σ H Q q => two_weak (tI_tT (fr := fr) q)⟩
theorem ET_val {e : Expr} {lk : List Nat} {f : Den} (he : EX X c e lk fr f) (hi : ∀ whole, isTrue e X.env whole = (do let v ← whole; standAt e.pos; holding [v] (truthy v))) : ET X c e lk f :=
  ⟨pt_weak (pt_val he.run hi) fun σ H Q q => tI_tT q⟩
end

/-! ## the operators themselves -/
def LIM : Nat := 1000000
/-- 2 ^ 200 -/
abbrev BIG : Int := 1606938044258990275541962092341162602522202993782792835301376
theorem LIM_le {n : Nat} (h : n ≤ LIM) : n ≤ sizeLine := by rw [sizeLine_eq]; unfold LIM at h; omega
def addD : D → D → Option D
  | .int i, .int j => some (.int (i + j))
  | .str a, .str b => if a.length + b.length ≤ LIM then some (.str (a ++ b)) else none
  | .tuple a, .tuple b => if a.length + b.length ≤ LIM then some (.tuple (a ++ b)) else none
  | .list a, .list b => if a.length + b.length ≤ LIM then some (.list (a ++ b)) else none
  | _, _ => none
def subD : D → D → Option D
  | .int i, .int j => some (.int (i - j))
  | _, _ => none
def smallI (i : Int) : Bool := decide (-(2 ^ 64) < i) && decide (i < 2 ^ 64)
def mulD : D → D → Option D
  | .int i, .int j => if smallI i || smallI j then some (.int (i * j)) else none
  | .tuple a, .int k => if decide (a.length ≤ 1000) && decide (k ≤ 1000) && decide (-1000 ≤ k) then some (.tuple (List.replicate k.toNat a).flatten) else none
  | _, _ => none
def fdivD : D → D → Option D
  | .int i, .int j => if decide (0 < j) && decide (j < BIG) then some (.int (i / j)) else none
  | _, _ => none
def modD : D → D → Option D
  | .int i, .int j => if decide (0 < j) then some (.int (i % j)) else none
  | _, _ => none
section
variable {X : Cx}
theorem fin_int {K : Frag} {F H : Hp} {fr : Fr} {i : Int} {Q : VK} (sb : Sb F H) (q : ∀ v F' H', Stp N0 F H F' H' → RN K fr F' H' H v (.int i) → Q v H') : Q (.int i) H :=
  q _ F H (.refl sb) (.of (.int i) (by cases fr <;> rfl))
theorem fin_bool {K : Frag} {F H : Hp} {fr : Fr} {i : Bool} {Q : VK} (sb : Sb F H) (q : ∀ v F' H', Stp N0 F H F' H' → RN K fr F' H' H v (.bool i) → Q v H') : Q (.bl i) H :=
  q _ F H (.refl sb) (.of (.bl i) (by cases fr <;> rfl))
theorem fin_str {K : Frag} {F H : Hp} {fr : Fr} {i : Str} {Q : VK} (sb : Sb F H) (q : ∀ v F' H', Stp N0 F H F' H' → RN K fr F' H' H v (.str i) → Q v H') : Q (.str i) H :=
  q _ F H (.refl sb) (.of (.str i) (by cases fr <;> rfl))
theorem fin_tup {K : Frag} {F H : Hp} {fr : Fr} {xs : List V} {ds : List D} {Q : VK} (sb : Sb F H) (r : RDs K F xs ds) (q : ∀ v F' H', Stp N0 F H F' H' → RN K fr F' H' H v (.tuple ds) → Q v H') : ∀ p, H p = none → Q (.ref p) (upd H p (.tup xs)) :=
  fun p hp => q _ _ _ (.new sb hp) (.tup (sb.none hp) r)
theorem fin_lst {K : Frag} {F H : Hp} {tk : Bool} {xs : List V} {ds : List D} {Q : VK} (sb : Sb F H) (r : RDs K F xs ds) (q : ∀ v F' H', Stp N0 F H F' H' → RN K (.own tk) F' H' H v (.list ds) → Q v H') : ∀ p, H p = none → Q (.ref p) (upd H p (.lst xs)) :=
  fun p hp => q _ _ _ (.raw sb hp) (.lst sb hp r)
/-- list + list, each to be read -/
theorem op_catS : OpR X (binaryOp .Add) (fun x y H Q => ∃ l b xs zs, x = .ref l ∧ y = .ref b ∧ Rd H l (.lst xs) ∧ Rd H b (.lst zs) ∧ xs.length + zs.length ≤ sizeLine ∧ ∀ p, H p = none → Q (.ref p) (upd H p (.lst (xs ++ zs)))) := by
  intro pins s σ H x y v u Q I rx ry h
  obtain ⟨l, b, xs, zs, rfl, rfl, hH, hB, hz, q⟩ := h
  cases rx
  cases ry
  obtain ⟨z, its, n, r, e⟩ := hH.ok I.hok
  obtain ⟨z2, its2, n2, r2, e2⟩ := hB.ok I.hok
  have hl := r.length
  have hl2 := r2.length
  refine PySem.P.add_list e e2 ?_ (by simp only [List.size_toArray]; omega)
  have ea : its.toArray ++ its2.toArray = (its ++ its2).toArray := by simp
  rw [ea]
  exact ⟨.ref _, _, I.lnew (t' := s.toks) (r.append r2) (by rw [List.length_append]; omega), rfl, q _ I.fresh⟩
theorem opr_weak {f : Value → Value → Sem Value} {r r' : R2} (h : OpR X f r) (w : ∀ x y H Q, r' x y H Q → r x y H Q) : OpR X f r' := fun pins s σ H x y v u Q I rx ry q => h pins s σ H x y v u Q I rx ry (w x y H Q q)
theorem o_add : OpR X (binaryOp .Add) (rDD X.K addD (.own false)) := by
  refine opr_weak (((op_add.or op_add_str).or op_catA).or op_catS) fun x y H Q ⟨F, d, e, r, sb, hx, hy, hh, q⟩ => ?_
  unfold addD at hh
  split at hh
  · cases hh
    exact .inl (.inl (.inl ⟨_, _, hx.int, hy.int, fin_int sb q⟩))
  · split at hh
    · rename_i hl
      cases hh
      exact .inl (.inl (.inr ⟨_, _, hx.str, hy.str, LIM_le hl, fin_str sb q⟩))
    · cases hh
  · split at hh
    · rename_i hl
      cases hh
      obtain ⟨a, xs, rfl, q1, r1⟩ := hx.tuple sb
      obtain ⟨b, ys, rfl, q2, r2⟩ := hy.tuple sb
      have l1 := r1.length
      have l2 := r2.length
      refine .inl (.inr ⟨a, b, xs, ys, rfl, rfl, q1, q2, LIM_le (by omega), fun e => ?_, fun _ e => ?_, fun _ _ => fin_tup sb (r1.append r2) q⟩)
      · subst e
        cases r1
        cases hy with
        | rd hy => exact q _ F H (.refl sb) (.of hy rfl)
      · subst e
        cases r2
        rw [List.append_nil] at q
        cases hx with
        | rd hx => exact q _ F H (.refl sb) (.of hx rfl)
    · cases hh
  · split at hh
    · rename_i hl
      cases hh
      obtain ⟨a, xs, rfl, q1, r1⟩ := hx.list sb
      obtain ⟨b, ys, rfl, q2, r2⟩ := hy.list sb
      have l1 := r1.length
      have l2 := r2.length
      exact .inr ⟨a, b, xs, ys, rfl, rfl, q1, q2, LIM_le (by omega), fin_lst sb (r1.append r2) q⟩
    · cases hh
  · cases hh
theorem o_sub : OpR X (binaryOp .Sub) (rDD X.K subD .no) := by
  refine opr_weak op_sub fun x y H Q ⟨F, d, e, r, sb, hx, hy, hh, q⟩ => ?_
  unfold subD at hh
  split at hh
  · cases hh
    exact ⟨_, _, hx.int, hy.int, fin_int sb q⟩
  · cases hh
theorem o_fdiv : OpR X (binaryOp .FloorDiv) (rDD X.K fdivD .no) := by
  refine opr_weak op_fdivW fun x y H Q ⟨F, d, e, r, sb, hx, hy, hh, q⟩ => ?_
  unfold fdivD at hh
  split at hh
  · rename_i i j
    split at hh
    · rename_i hc
      simp only [Bool.and_eq_true, decide_eq_true_eq] at hc
      cases hh
      refine ⟨_, _, hx.int, hy.int, wide_div (b := 200) hc.1 ?_ (by decide) (by decide), fin_int sb q⟩
      have h2 := hc.2
      have h3 : ((j.natAbs : Nat) : Int) < ((2 ^ 200 : Nat) : Int) := by
        rw [Int.natAbs_of_nonneg (by omega)]
        exact h2
      exact Int.ofNat_lt.mp h3
    · cases hh
  · cases hh
theorem o_mod : OpR X (binaryOp .Mod) (rDD X.K modD .no) := by
  refine opr_weak op_mod fun x y H Q ⟨F, d, e, r, sb, hx, hy, hh, q⟩ => ?_
  unfold modD at hh
  split at hh
  · split at hh
    · rename_i hc
      simp only [decide_eq_true_eq] at hc
      cases hh
      exact ⟨_, _, hx.int, hy.int, hc, fin_int sb q⟩
    · cases hh
  · cases hh
/-- tuple * int, any small int -/
theorem tuple_mul0 (l : Addr) (items : Array Value) (n : Nat) (dd : Option Addr) (sl : Array (Option Value)) (x : Int) (u : Tok) (c0 : (decide (x < -(2 ^ 63)) || decide (x ≥ 2 ^ 63)) = false) (c1 : (items.isEmpty || x == 1) = false) (c2 : (decide (x ≤ 0) || items.isEmpty) = true) :
    Meets (Builtin.«tuple.__mul__» ⟨[.ref l, .int x u], []⟩) (fun _ R s => s.heap.get? l = some { cls := .type "tuple", dict := dd, data := .seq items n, slots := sl } ∧
      R (.ok (.ret (Value.ref s.heap.objs.size))) { s with heap := s.heap.push { cls := Value.type "tuple", data := Data.seq #[] }, toks := s.toks }) :=
  .of_wp fun prog w A R s h => by
    obtain ⟨hp, g, d, tk, os⟩ := s
    obtain ⟨hl, h⟩ := h
    have f1 := AutoSeq1.idx_int
    wp_walk using wpAny_loadPart' hl
    repeat (first
      | (refine wpAny_ite_false (decide_eq_false (by rw [c0]; exact Bool.false_ne_true)) ?_; wp_walk using wpAny_loadPart' hl)
      | (refine wpAny_ite_false (decide_eq_false (by rw [c1]; exact Bool.false_ne_true)) ?_; wp_walk using wpAny_loadPart' hl)
      | (refine wpAny_ite_true (decide_eq_true (by rw [c2])) ?_; wp_walk using wpAny_loadPart' hl))
    exact ⟨_, rfl, h⟩
theorem tuple_mul1 (l : Addr) (items : Array Value) (n : Nat) (dd : Option Addr) (sl : Array (Option Value)) (x : Int) (u : Tok) (c0 : (decide (x < -(2 ^ 63)) || decide (x ≥ 2 ^ 63)) = false) (c1 : (items.isEmpty || x == 1) = true) :
    Meets (Builtin.«tuple.__mul__» ⟨[.ref l, .int x u], []⟩) (fun _ R s => s.heap.get? l = some { cls := .type "tuple", dict := dd, data := .seq items n, slots := sl } ∧
      R (.ok (.ret (Value.ref l))) s) :=
  .of_wp fun prog w A R s h => by
    obtain ⟨hp, g, d, tk, os⟩ := s
    obtain ⟨hl, h⟩ := h
    have f1 := AutoSeq1.idx_int
    wp_walk using wpAny_loadPart' hl
    repeat (first
      | (refine wpAny_ite_false (decide_eq_false (by rw [c0]; exact Bool.false_ne_true)) ?_; wp_walk using wpAny_loadPart' hl)
      | (refine wpAny_ite_true (decide_eq_true (by rw [c1])) ?_; wp_walk using wpAny_loadPart' hl))
    exact ⟨_, rfl, h⟩
end
end WH

namespace WH
open PySem PySem.Spec PyProof.Rows L2
section
variable {X : Cx}
theorem op_repA : OpR X (binaryOp .Mult) (fun x y H Q => ∃ l k xs, x = .ref l ∧ y = .int k ∧ SqT X.K H l xs ∧ xs.length ≤ 1000 ∧ k ≤ 1000 ∧ -1000 ≤ k ∧ ((xs = [] ∨ k = 1) → Q (.ref l) H) ∧
    (¬ (xs = [] ∨ k = 1) → ∀ p, H p = none → Q (.ref p) (upd H p (.tup (List.replicate k.toNat xs).flatten)))) := by
  intro pins s σ H x y v u Q I rx ry h
  obtain ⟨l, k, xs, rfl, rfl, hT, hz, h1, h0, q1, q2⟩ := h
  by_cases h2 : xs ≠ [] ∧ 2 ≤ k
  · exact op_repT pins s σ H _ _ v u Q I rx ry ⟨l, k, xs, rfl, rfl, hT, h2.1, h2.2, h1, hz, q2 (by rintro (e | e); exact h2.1 e; omega)⟩
  · cases rx
    obtain ⟨t, rfl⟩ := ry
    obtain ⟨its, r, ⟨⟨cls, dd, data, sl⟩, ho, hc, n, hd⟩, hs⟩ := I.tuple hT
    simp only at hc hd
    subst hc hd
    have hle : its.length = xs.length := r.length.symm
    have c0 : (decide (k < -(2 ^ 63)) || decide (k ≥ 2 ^ 63)) = false := by
      rw [decide_eq_false (by omega), decide_eq_false (by omega)] <;> rfl
    by_cases h3 : xs = [] ∨ k = 1
    · have c1 : (its.toArray.isEmpty || k == 1) = true := by
        rcases h3 with e | e
        · have : its = [] := List.eq_nil_of_length_eq_zero (by rw [hle, e] <;> rfl)
          rw [this] <;> rfl
        · rw [e] <;> simp
      refine wpAny_binaryOp_repeat_ref (T := "tuple") (U := "int") (by decide) ⟨_, ho, rfl⟩ (fun s' => typeIs_int s' k t) noFill_tuple_mul F.fills_int_mul F.slot_int_rmul repeat_tuple F.slot_int_index.lookup
        (call_meets F.slot_int_rmul (typeIs_int s k t) F.entry_int_rmul (F.args_int_rmul_2 _ _) (int_rmul_tuple k t l its.toArray n dd sl)
          ⟨ho, rfl, ⟨_, ho, rfl⟩, call_meets F.slot_tuple_mul ⟨_, ho, rfl⟩ F.entry_tuple_mul (F.args_tuple_mul_2 _ _) (tuple_mul1 l its.toArray n dd sl k t c0 c1) ⟨ho, ?_⟩⟩)
      exact ⟨.ref l, H, I, rfl, q1 h3⟩
    · have hx : xs ≠ [] := fun e => h3 (.inl e)
      have hk : k ≤ 0 := by
        by_cases h4 : 2 ≤ k
        · exact absurd ⟨hx, h4⟩ h2
        · have : k ≠ 1 := fun e => h3 (.inr e)
          omega
      have hn : its ≠ [] := fun e => hx (List.eq_nil_of_length_eq_zero (by rw [← hle, e] <;> rfl))
      have hi : its.toArray.isEmpty = false := by
        cases its with
        | nil => exact absurd rfl hn
        | cons a b => rfl
      have c1 : (its.toArray.isEmpty || k == 1) = false := by
        rw [hi, Bool.false_or]
        exact beq_eq_false_iff_ne.mpr (by omega)
      have c2 : (decide (k ≤ 0) || its.toArray.isEmpty) = true := by
        rw [decide_eq_true hk] <;> rfl
      refine wpAny_binaryOp_repeat_ref (T := "tuple") (U := "int") (by decide) ⟨_, ho, rfl⟩ (fun s' => typeIs_int s' k t) noFill_tuple_mul F.fills_int_mul F.slot_int_rmul repeat_tuple F.slot_int_index.lookup
        (call_meets F.slot_int_rmul (typeIs_int s k t) F.entry_int_rmul (F.args_int_rmul_2 _ _) (int_rmul_tuple k t l its.toArray n dd sl)
          ⟨ho, rfl, ⟨_, ho, rfl⟩, call_meets F.slot_tuple_mul ⟨_, ho, rfl⟩ F.entry_tuple_mul (F.args_tuple_mul_2 _ _) (tuple_mul0 l its.toArray n dd sl k t c0 c1 c2) ⟨ho, ?_⟩⟩)
      have e0 : (List.replicate k.toNat xs).flatten = [] := by
        have : k.toNat = 0 := by omega
        rw [this] <;> rfl
      refine ⟨.ref s.heap.objs.size, _, I.laid (t' := s.toks) (o := .tup (List.replicate k.toNat xs).flatten) (fun b ob q => Heap.get?_push_of_some _ q) (Nat.le_refl _) ?_, rfl, q2 h3 _ (I.hok.fresh (Nat.le_refl _))⟩
      rw [e0]
      exact ⟨Nat.zero_le _, [], .nil, IsTup.new _ _⟩
theorem smallI_spec {i : Int} (h : smallI i = true) : -(2 ^ 64) < i ∧ i < 2 ^ 64 := by
  unfold smallI at h
  simpa using h
theorem o_mul : OpR X (binaryOp .Mult) (rDD X.K mulD .no) := by
  refine opr_weak (op_mul.or op_repA) fun x y H Q ⟨F, d, e, r, sb, hx, hy, hh, q⟩ => ?_
  unfold mulD at hh
  split at hh
  · split at hh
    · rename_i hc
      rw [Bool.or_eq_true] at hc
      cases hh
      exact .inl ⟨_, _, hx.int, hy.int, hc.imp smallI_spec smallI_spec, fin_int sb q⟩
    · cases hh
  · rename_i a k
    split at hh
    · rename_i hc
      simp only [Bool.and_eq_true, decide_eq_true_eq] at hc
      cases hh
      obtain ⟨l, xs, rfl, q1, r1⟩ := hx.tuple sb
      have l1 := r1.length
      refine .inr ⟨l, k, xs, rfl, hy.int, q1, by omega, hc.1.2, hc.2, fun e => ?_, fun _ => fin_tup sb (r1.rep _) q⟩
      cases hx with
      | rd hx =>
        have e2 : (List.replicate k.toNat a).flatten = a := by
          rcases e with e | e
          · subst e
            cases r1
            simp
          · subst e
            simp
        rw [e2] at q
        exact q _ F H (.refl sb) (.of hx rfl)
    · cases hh
  · cases hh

/-! ## comparisons -/
def eqD : D → D → Option D := fun d e => if d.plain && e.plain && decide (d.depth ≤ 40) && decide (e.depth ≤ 40) then some (.bool (PyData.eqv d e)) else none
def neD : D → D → Option D := fun d e => if d.plain && e.plain && decide (d.depth ≤ 40) && decide (e.depth ≤ 40) then some (.bool (!PyData.eqv d e)) else none
theorem fin_bl {pins : List (Addr × Obj)} {σ : L2.St} {H : Hp} {s : Shared} {Q : VK} {k : Bool} (I : L2.Inv X pins σ H s) (q : Q (.bl k) H) : EP X pins σ Q (.bool k) s := ⟨.bl k, H, I, rfl, q⟩
theorem o_eq (hu : X.A.units + 64 < cLine) : OpR X (compareOp .Eq) (rDD X.K eqD .no) := fun pins s σ H x y v u Q I rx ry ⟨F, d, e, r, sb, hx, hy, hh, q⟩ => by
  unfold eqD at hh
  split at hh
  · rename_i hc
    simp only [Bool.and_eq_true, decide_eq_true_eq] at hc
    cases hh
    obtain ⟨as, r1⟩ := Dp.reads I d x v (RD.dp d (hx.deep sb) hc.1.1.1) rx
    obtain ⟨bs, r2⟩ := Dp.reads I e y u (RD.dp e (hy.deep sb) hc.1.1.2) ry
    exact SeqAt.eq_plain r1 r2 hc.1.1.1 hc.1.1.2 (by omega) (fin_bl I (fin_bool sb q))
  · cases hh
theorem o_ne (hu : X.A.units + 64 < cLine) : OpR X (compareOp .NotEq) (rDD X.K neD .no) := fun pins s σ H x y v u Q I rx ry ⟨F, d, e, r, sb, hx, hy, hh, q⟩ => by
  unfold neD at hh
  split at hh
  · rename_i hc
    simp only [Bool.and_eq_true, decide_eq_true_eq] at hc
    cases hh
    obtain ⟨as, r1⟩ := Dp.reads I d x v (RD.dp d (hx.deep sb) hc.1.1.1) rx
    obtain ⟨bs, r2⟩ := Dp.reads I e y u (RD.dp e (hy.deep sb) hc.1.1.2) ry
    exact SeqAt.ne_plain r1 r2 hc.1.1.1 hc.1.1.2 (by omega) (fin_bl I (fin_bool sb q))
  · cases hh
/-- data that can be compared: their kinds alike, None nowhere -/
def ordOk (d e : D) : Bool := PySem.W.alike d e && d.plain && e.plain && (match d with | .none => false | _ => true) && decide (d.depth ≤ 40) && decide (e.depth ≤ 40)
theorem ordOk_spec {d e : D} (h : ordOk d e = true) : PySem.W.alike d e = true ∧ d.plain = true ∧ e.plain = true ∧ d ≠ .none ∧ d.depth ≤ 40 ∧ e.depth ≤ 40 := by
  unfold ordOk at h
  simp only [Bool.and_eq_true, decide_eq_true_eq] at h
  obtain ⟨⟨⟨⟨⟨h1, h2⟩, h3⟩, h4⟩, h5⟩, h6⟩ := h
  refine ⟨h1, h2, h3, fun z => ?_, h5, h6⟩
  rw [z] at h4
  cases h4
def ltD : D → D → Option D
  | .int i, .int j => some (.bool (decide (i < j)))
  | d, e => if ordOk d e then some (.bool (PySem.W.dataLt d e)) else none
def leD : D → D → Option D
  | .int i, .int j => some (.bool (decide (i ≤ j)))
  | d, e => if ordOk d e then some (.bool (!PySem.W.dataLt e d)) else none
def gtD : D → D → Option D
  | .int i, .int j => some (.bool (decide (j < i)))
  | d, e => if ordOk d e then some (.bool (PySem.W.dataLt e d)) else none
def geD : D → D → Option D
  | .int i, .int j => some (.bool (decide (j ≤ i)))
  | d, e => if ordOk d e then some (.bool (!PySem.W.dataLt d e)) else none
theorem o_lt (hu : X.A.units + 64 < cLine) : OpR X (compareOp .Lt) (rDD X.K ltD .no) := fun pins s σ H x y v u Q I rx ry ⟨F, d, e, r, sb, hx, hy, hh, q⟩ => by
  unfold ltD at hh
  split at hh
  · cases hh
    exact op_lt pins s σ H x y v u Q I rx ry ⟨_, _, hx.int, hy.int, fin_bool sb q⟩
  · split at hh
    · rename_i hc
      cases hh
      obtain ⟨h1, h2, h3, h4, h5, h6⟩ := ordOk_spec hc
      obtain ⟨as, r1⟩ := Dp.reads I d x v (RD.dp d (hx.deep sb) h2) rx
      obtain ⟨bs, r2⟩ := Dp.reads I e y u (RD.dp e (hy.deep sb) h3) ry
      exact PySem.W.lt_data r1 r2 h1 h4 (by omega) (fin_bl I (fin_bool sb q))
    · cases hh
theorem o_le (hu : X.A.units + 64 < cLine) : OpR X (compareOp .LtE) (rDD X.K leD .no) := fun pins s σ H x y v u Q I rx ry ⟨F, d, e, r, sb, hx, hy, hh, q⟩ => by
  unfold leD at hh
  split at hh
  · cases hh
    exact op_le pins s σ H x y v u Q I rx ry ⟨_, _, hx.int, hy.int, fin_bool sb q⟩
  · split at hh
    · rename_i hc
      cases hh
      obtain ⟨h1, h2, h3, h4, h5, h6⟩ := ordOk_spec hc
      obtain ⟨as, r1⟩ := Dp.reads I d x v (RD.dp d (hx.deep sb) h2) rx
      obtain ⟨bs, r2⟩ := Dp.reads I e y u (RD.dp e (hy.deep sb) h3) ry
      exact PySem.W.le_data r1 r2 h1 h4 (by omega) (fin_bl I (fin_bool sb q))
    · cases hh
theorem o_gt (hu : X.A.units + 64 < cLine) : OpR X (compareOp .Gt) (rDD X.K gtD .no) := fun pins s σ H x y v u Q I rx ry ⟨F, d, e, r, sb, hx, hy, hh, q⟩ => by
  unfold gtD at hh
  split at hh
  · cases hh
    exact op_gt pins s σ H x y v u Q I rx ry ⟨_, _, hx.int, hy.int, fin_bool sb q⟩
  · split at hh
    · rename_i hc
      cases hh
      obtain ⟨h1, h2, h3, h4, h5, h6⟩ := ordOk_spec hc
      obtain ⟨as, r1⟩ := Dp.reads I d x v (RD.dp d (hx.deep sb) h2) rx
      obtain ⟨bs, r2⟩ := Dp.reads I e y u (RD.dp e (hy.deep sb) h3) ry
      exact PySem.W.gt_data r1 r2 h1 h4 (by omega) (fin_bl I (fin_bool sb q))
    · cases hh
theorem o_ge (hu : X.A.units + 64 < cLine) : OpR X (compareOp .GtE) (rDD X.K geD .no) := fun pins s σ H x y v u Q I rx ry ⟨F, d, e, r, sb, hx, hy, hh, q⟩ => by
  unfold geD at hh
  split at hh
  · cases hh
    exact op_ge pins s σ H x y v u Q I rx ry ⟨_, _, hx.int, hy.int, fin_bool sb q⟩
  · split at hh
    · rename_i hc
      cases hh
      obtain ⟨h1, h2, h3, h4, h5, h6⟩ := ordOk_spec hc
      obtain ⟨as, r1⟩ := Dp.reads I d x v (RD.dp d (hx.deep sb) h2) rx
      obtain ⟨bs, r2⟩ := Dp.reads I e y u (RD.dp e (hy.deep sb) h3) ry
      exact PySem.W.ge_data r1 r2 h1 h4 (by omega) (fin_bl I (fin_bool sb q))
    · cases hh
/-- x in c: c a list, a tuple (by ==), a text of which x is a sign -/
def inD (neg : Bool) : D → D → Option D
  | d, .list es => if d.plain && PyData.plainAll es && decide (d.depth ≤ 30) && decide (PyData.depthAll es ≤ 30) then some (.bool (Bool.xor neg (es.any fun z => PyData.eqv z d))) else none
  | d, .tuple es => if d.plain && PyData.plainAll es && decide (d.depth ≤ 30) && decide (PyData.depthAll es ≤ 30) then some (.bool (Bool.xor neg (es.any fun z => PyData.eqv z d))) else none
  | .str a, .str b => match a.cps.toList with
    | [x] => some (.bool (Bool.xor neg (decide (x ∈ b.cps.toList))))
    | _ => none
  | _, _ => none
end
end WH

namespace WH
open PySem PySem.Spec PyProof.Rows L2
section
variable {X : Cx}
theorem one_sign {c : Nat} : ∀ {z : Str}, z.cps.toList = [c] → z = ⟨#[c]⟩ := fun {z} h => by
  cases z with
  | mk cps => exact congrArg Str.mk (Array.toList_inj.mp h)
theorem o_in (hu : X.A.units + 64 < cLine) : OpR X (compareOp .In) (rDD X.K (inD false) .no) := fun pins s σ H x y v u Q I rx ry ⟨F, d, e, r, sb, hx, hy, hh, q⟩ => by
  unfold inD at hh
  split at hh
  · split at hh
    · rename_i hc
      simp only [Bool.and_eq_true, decide_eq_true_eq] at hc
      cases hh
      obtain ⟨as, r1⟩ := Dp.reads I _ x v (RD.dp _ (hx.deep sb) hc.1.1.1) rx
      obtain ⟨bs, r2⟩ := Dp.reads I _ y u (RD.dp _ (hy.deep sb) (by simpa [PyData.plain] using hc.1.1.2)) ry
      simp only [Bool.false_xor] at q
      exact SeqAt.in_list_data r2 r1 hc.1.1.2 hc.1.1.1 (by omega) (fin_bl I (fin_bool sb q))
    · cases hh
  · split at hh
    · rename_i hc
      simp only [Bool.and_eq_true, decide_eq_true_eq] at hc
      cases hh
      obtain ⟨as, r1⟩ := Dp.reads I _ x v (RD.dp _ (hx.deep sb) hc.1.1.1) rx
      obtain ⟨bs, r2⟩ := Dp.reads I _ y u (RD.dp _ (hy.deep sb) (by simpa [PyData.plain] using hc.1.1.2)) ry
      simp only [Bool.false_xor] at q
      exact SeqAt.in_tuple_data r2 r1 hc.1.1.2 hc.1.1.1 (by omega) (fin_bl I (fin_bool sb q))
    · cases hh
  · split at hh
    · rename_i c hc
      cases hh
      have e1 : x = .str ⟨#[c]⟩ := hx.str.trans (congrArg V.str (one_sign hc))
      simp only [Bool.false_xor] at q
      exact op_in_sign pins s σ H x y v u Q I rx ry ⟨c, _, e1, hy.str, fin_bool sb q⟩
    · cases hh
  · cases hh
theorem o_notin (hu : X.A.units + 64 < cLine) : OpR X (compareOp .NotIn) (rDD X.K (inD true) .no) := fun pins s σ H x y v u Q I rx ry ⟨F, d, e, r, sb, hx, hy, hh, q⟩ => by
  unfold inD at hh
  split at hh
  · split at hh
    · rename_i hc
      simp only [Bool.and_eq_true, decide_eq_true_eq] at hc
      cases hh
      obtain ⟨as, r1⟩ := Dp.reads I _ x v (RD.dp _ (hx.deep sb) hc.1.1.1) rx
      obtain ⟨bs, r2⟩ := Dp.reads I _ y u (RD.dp _ (hy.deep sb) (by simpa [PyData.plain] using hc.1.1.2)) ry
      simp only [Bool.true_xor] at q
      exact SeqAt.notIn_list_data r2 r1 hc.1.1.2 hc.1.1.1 (by omega) (fin_bl I (fin_bool sb q))
    · cases hh
  · split at hh
    · rename_i hc
      simp only [Bool.and_eq_true, decide_eq_true_eq] at hc
      cases hh
      obtain ⟨as, r1⟩ := Dp.reads I _ x v (RD.dp _ (hx.deep sb) hc.1.1.1) rx
      obtain ⟨bs, r2⟩ := Dp.reads I _ y u (RD.dp _ (hy.deep sb) (by simpa [PyData.plain] using hc.1.1.2)) ry
      simp only [Bool.true_xor] at q
      exact SeqAt.notIn_tuple_data r2 r1 hc.1.1.2 hc.1.1.1 (by omega) (fin_bl I (fin_bool sb q))
    · cases hh
  · split at hh
    · rename_i c hc
      cases hh
      have e1 : x = .str ⟨#[c]⟩ := hx.str.trans (congrArg V.str (one_sign hc))
      simp only [Bool.true_xor] at q
      exact op_notIn_sign pins s σ H x y v u Q I rx ry ⟨c, _, e1, hy.str, fin_bool sb q⟩
    · cases hh
  · cases hh

/-! ## is None, is True, is False (the right side a constant) -/
def isC (neg : Bool) (k : D) : D → Option D := fun d => match k, d with
  | .none, .none => some (.bool (Bool.xor neg true))
  | .none, _ => some (.bool (Bool.xor neg false))
  | .bool k, .bool b => some (.bool (Bool.xor neg (b == k)))
  | _, _ => none
def un1 (h : D → Option D) (f : DenB) : Den := fun ρ n => (f ρ n).bind fun p => p.1.toD.bind fun x => (h x).map (·, p.2)
theorem un1_inv {h : D → Option D} {f : DenB} {ρ : En} {n n' : Nat} {d : D} (e : un1 h f ρ n = some (d, n')) : ∃ s x, f ρ n = some (s, n') ∧ s.toD = some x ∧ h x = some d := by
  unfold un1 at e
  cases ef : f ρ n with
  | none => rw [ef] at e; cases e
  | some p =>
    rw [ef] at e
    simp only [Option.bind_some] at e
    cases e1 : p.1.toD with
    | none => rw [e1] at e; cases e
    | some x =>
      rw [e1] at e
      simp only [Option.bind_some] at e
      cases e3 : h x with
      | none => rw [e3] at e; cases e
      | some r =>
        rw [e3] at e
        cases e
        exact ⟨p.1, x, by rw [← ef], e1, e3⟩
def rD1 (K : Frag) (h : D → Option D) (fr : Fr) : V → Hp → VK → Prop := fun x H Q => ∃ F d r, Sb F H ∧ BR K F H x d ∧ h d = some r ∧ ∀ v F' H', Stp N0 F H F' H' → RN K fr F' H' H v r → Q v H'
variable {c : Dc} {a b : Expr} {la lb : List Nat} {fa fb : DenB} {h : D → Option D} {fr : Fr} {pos : Pos}
theorem one_weak {σ : L2.St} {H : Hp} {Q : VK} (q : tI X.K c.wa c.o la fr (un1 h fa) σ H Q) : tB X.K c.wa c.o la fa σ H fun x H1 => rD1 X.K h fr x H1 Q := by
  obtain ⟨F, ρ, n, d, n', E, hl, hf, q⟩ := q
  obtain ⟨s, x, e1, e3, e5⟩ := un1_inv hf
  refine ⟨F, ρ, n, s, n', E, hl, e1, fun v F1 H1 st1 E1 r1 => ?_⟩
  refine ⟨F1, x, d, E1.sb, r1.br e3, e5, fun u F3 H3 st3 r3 => ?_⟩
  refine q u F3 H3 (st1.trans st3.wa) (E1.step0 st3) ?_
  have r4 := r3.wa E1.ww
  refine ⟨r4.1, fun z => ?_⟩
  obtain ⟨a', e, hn, hh⟩ := r4.2 z
  refine ⟨a', e, ?_, hh⟩
  cases eH : H a' with
  | none => rfl
  | some u' => exact absurd hn (st1.kn a' (by rw [eH]; exact fun z => nomatch z))
theorem EX_un {op : UnaryOp} (ho : UnR X (unaryOp op) (rD1 X.K h fr)) (ha : EB X c a la fa) : EX X c (.UnaryOp op a pos) la fr (un1 h fa) :=
  ⟨pe_weak (pe_un ho ha.run) fun σ H Q q => one_weak q⟩
def negD : D → Option D
  | .int i => some (.int (-i))
  | _ => none
theorem o_neg : UnR X (unaryOp .USub) (rD1 X.K negD .no) := fun pins s σ H x v Q I rx ⟨F, d, r, sb, hx, hh, q⟩ => by
  unfold negD at hh
  split at hh
  · cases hh
    exact un_neg pins s σ H x v Q I rx ⟨_, hx.int, fin_int sb q⟩
  · cases hh
theorem BR.isN {K : Frag} {F H : Hp} {v : V} {d : D} (h : BR K F H v d) : decide (v = .non) = (match d with | .none => true | _ => false) := by
  cases h with
  | rd h => cases h <;> rfl
  | ol q r => rfl
  | dk q r => rfl
  | dt q r => rfl
theorem EX_isN {op : CmpOp} {neg : Bool} (hop : (op = .Is ∧ neg = false) ∨ (op = .IsNot ∧ neg = true)) {j : Nat} {p2 : Pos} (ha : EB X c a la fa) : EX X c (.Compare a [op] [.Constant .none j p2] pos) la .no (un1 (isC neg .none) fa) := by
  have key : ∀ {σ : L2.St} {H : Hp} {Q : VK}, tI X.K c.wa c.o la .no (un1 (isC neg .none) fa) σ H Q → tB X.K c.wa c.o la fa σ H fun x H1 => Q (.bl (Bool.xor neg (decide (x = .non)))) H1 := fun {σ H Q} q => by
    obtain ⟨F, ρ, n, s, n', E, hl, hf, q'⟩ := one_weak q
    refine ⟨F, ρ, n, s, n', E, hl, hf, fun v F' H' st E' r => ?_⟩
    obtain ⟨F2, d, r2, sb, hx, hh, q2⟩ := q' v F' H' st E' r
    have e := hx.isN
    rw [e]
    cases d <;> (cases hh; exact fin_bool sb q2)
  rcases hop with ⟨rfl, rfl⟩ | ⟨rfl, rfl⟩
  · exact ⟨pe_weak (pe_cmpR op_isN ha.run pe_non (nomark _)) fun σ H Q q => by
      obtain ⟨F, ρ, n, s, n', E, hl, hf, q'⟩ := key q
      exact ⟨F, ρ, n, s, n', E, hl, hf, fun v F' H' st E' r => ⟨rfl, by simpa using q' v F' H' st E' r⟩⟩⟩
  · exact ⟨pe_weak (pe_cmpR op_notN ha.run pe_non (nomark _)) fun σ H Q q => by
      obtain ⟨F, ρ, n, s, n', E, hl, hf, q'⟩ := key q
      exact ⟨F, ρ, n, s, n', E, hl, hf, fun v F' H' st E' r => ⟨rfl, by simpa using q' v F' H' st E' r⟩⟩⟩
theorem EX_isB {op : CmpOp} {neg k : Bool} (hop : (op = .Is ∧ neg = false) ∨ (op = .IsNot ∧ neg = true)) {j : Nat} {p2 : Pos} (ha : EB X c a la fa) : EX X c (.Compare a [op] [.Constant (.bool k) j p2] pos) la .no (un1 (isC neg (.bool k)) fa) := by
  have key : ∀ {σ : L2.St} {H : Hp} {Q : VK}, tI X.K c.wa c.o la .no (un1 (isC neg (.bool k)) fa) σ H Q → tB X.K c.wa c.o la fa σ H fun x H1 => ∃ b, x = .bl b ∧ Q (.bl (Bool.xor neg (decide (b = k)))) H1 := fun {σ H Q} q => by
    obtain ⟨F, ρ, n, s, n', E, hl, hf, q'⟩ := one_weak q
    refine ⟨F, ρ, n, s, n', E, hl, hf, fun v F' H' st E' r => ?_⟩
    obtain ⟨F2, d, r2, sb, hx, hh, q2⟩ := q' v F' H' st E' r
    cases d with
    | bool b =>
      cases hh
      refine ⟨b, hx.bool, ?_⟩
      have z := fin_bool sb q2
      rw [Bool.beq_eq_decide_eq] at z
      exact z
    | _ => cases hh
  rcases hop with ⟨rfl, rfl⟩ | ⟨rfl, rfl⟩
  · exact ⟨pe_weak (pe_cmpR op_isBl ha.run pe_bl (nomark _)) fun σ H Q q => by
      obtain ⟨F, ρ, n, s, n', E, hl, hf, q'⟩ := key q
      refine ⟨F, ρ, n, s, n', E, hl, hf, fun v F' H' st E' r => ?_⟩
      obtain ⟨b, rfl, q2⟩ := q' v F' H' st E' r
      exact ⟨b, k, rfl, rfl, by simpa using q2⟩⟩
  · exact ⟨pe_weak (pe_cmpR op_notBl ha.run pe_bl (nomark _)) fun σ H Q q => by
      obtain ⟨F, ρ, n, s, n', E, hl, hf, q'⟩ := key q
      refine ⟨F, ρ, n, s, n', E, hl, hf, fun v F' H' st E' r => ?_⟩
      obtain ⟨b, rfl, q2⟩ := q' v F' H' st E' r
      exact ⟨b, k, rfl, rfl, by simpa using q2⟩⟩
end

/-! ## not, and, or, if .. else, chains -/
def notV (f : Den) : Den := fun ρ n => (f ρ n).bind fun p => match p.1 with
  | .bool b => some (.bool (!b), p.2)
  | _ => none
def andV (f g : Den) : Den := fun ρ n => (f ρ n).bind fun p => match p.1 with
  | .bool true => g ρ p.2
  | .bool false => some (.bool false, p.2)
  | _ => none
def orV (f g : Den) : Den := fun ρ n => (f ρ n).bind fun p => match p.1 with
  | .bool true => some (.bool true, p.2)
  | .bool false => g ρ p.2
  | _ => none
def iteV (t f g : Den) : Den := fun ρ n => (t ρ n).bind fun p => match p.1 with
  | .bool true => f ρ p.2
  | .bool false => g ρ p.2
  | _ => none
section
variable {X : Cx} {c : Dc} {a b : Expr} {la lb lt : List Nat} {f g t : Den} {pos : Pos} {rest : List Expr}
theorem RK.step {K : Frag} {wa : Option Addr} {fr : Fr} {F H H0 H1 : Hp} {v : V} {d : D} (r : RK K wa fr F H H1 v d) (h : ∀ a, H0 a ≠ none → H1 a ≠ none) : RK K wa fr F H H0 v d := by
  refine ⟨r.1, fun z => ?_⟩
  obtain ⟨a', e, hn, hh⟩ := r.2 z
  refine ⟨a', e, ?_, hh⟩
  cases eH : H0 a' with
  | none => rfl
  | some u' => exact absurd hn (h a' (by rw [eH]; exact fun z => nomatch z))
theorem notV_inv {ρ : En} {n : Nat} {r : D × Nat} (hf : notV f ρ n = some r) : ∃ b m, f ρ n = some (.bool b, m) ∧ r = (.bool (!b), m) := by
  unfold notV at hf
  cases ef : f ρ n with
  | none => rw [ef] at hf; cases hf
  | some p =>
    rw [ef] at hf; obtain ⟨d, m⟩ := p
    cases d with
    | bool b => exact ⟨b, m, rfl, by cases hf; rfl⟩
    | _ => cases hf
theorem ET_not (ha : ET X c a la f) : ET X c (.UnaryOp .Not a pos) la (notV f) := ⟨pt_weak (pt_not ha.run) fun σ H Q ⟨F, ρ, n, b, n', E, hl, hf, q⟩ => by
  obtain ⟨k, m, e1, e2⟩ := notV_inv hf
  cases e2
  exact ⟨F, ρ, n, k, n', E, hl, e1, fun F' H' st E' => q F' H' st E'⟩⟩
theorem EX_not (ha : EX X c a la .no f) : EX X c (.UnaryOp .Not a pos) la .no (notV f) := ⟨pe_weak (pe_not ha.run) fun σ H Q ⟨F, ρ, n, d, n', E, hl, hf, q⟩ => by
  obtain ⟨k, m, e1, e2⟩ := notV_inv hf
  cases e2
  refine ⟨F, ρ, n, _, n', E, hl, e1, fun v F' H' st E' r => ⟨k, ?_, q _ F' H' st E' ⟨RD.bl _, fun z => nomatch z⟩⟩⟩
  cases (show RD X.K F' v (.bool k) from r.1)
  rfl⟩
theorem EW_and1 (ha : ET X c a la f) : PW X (.BoolOp .And [a] pos) (tT X.K c.wa c.o la f) := pw_and1 ha.run
theorem EW_or1 (ha : ET X c a la f) : PW X (.BoolOp .Or [a] pos) (tT X.K c.wa c.o la f) := pw_or1 ha.run
theorem pw_weak {e : Expr} {t t' : TT} (h : PW X e t) (w : ∀ σ H Q, t' σ H Q → t σ H Q) : PW X e t' := ⟨fun wh pins s σ H Q I q => h.run wh pins s σ H Q I (w σ H Q q)⟩
theorem andV_inv {ρ : En} {n : Nat} {r : D × Nat} (hf : andV f g ρ n = some r) : ∃ b m, f ρ n = some (.bool b, m) ∧ (if b = true then g ρ m = some r else r = (.bool false, m)) := by
  unfold andV at hf
  cases ef : f ρ n with
  | none => rw [ef] at hf; cases hf
  | some p =>
    rw [ef] at hf; obtain ⟨d, m⟩ := p
    cases d with
    | bool b => cases b with
      | true => exact ⟨true, m, rfl, hf⟩
      | false => exact ⟨false, m, rfl, by cases hf; rfl⟩
    | _ => cases hf
theorem orV_inv {ρ : En} {n : Nat} {r : D × Nat} (hf : orV f g ρ n = some r) : ∃ b m, f ρ n = some (.bool b, m) ∧ (if b = true then r = (.bool true, m) else g ρ m = some r) := by
  unfold orV at hf
  cases ef : f ρ n with
  | none => rw [ef] at hf; cases hf
  | some p =>
    rw [ef] at hf; obtain ⟨d, m⟩ := p
    cases d with
    | bool b => cases b with
      | true => exact ⟨true, m, rfl, by cases hf; rfl⟩
      | false => exact ⟨false, m, rfl, hf⟩
    | _ => cases hf
theorem iteV_inv {ρ : En} {n : Nat} {r : D × Nat} (hf : iteV t f g ρ n = some r) : ∃ b m, t ρ n = some (.bool b, m) ∧ (if b = true then f ρ m = some r else g ρ m = some r) := by
  unfold iteV at hf
  cases ef : t ρ n with
  | none => rw [ef] at hf; cases hf
  | some p =>
    rw [ef] at hf; obtain ⟨d, m⟩ := p
    cases d with
    | bool b => cases b with
      | true => exact ⟨true, m, rfl, hf⟩
      | false => exact ⟨false, m, rfl, hf⟩
    | _ => cases hf
theorem EW_and (ha : ET X c a la f) (hb : PW X (.BoolOp .And (b :: rest) pos) (tT X.K c.wa c.o lb g)) : PW X (.BoolOp .And (a :: b :: rest) pos) (tT X.K c.wa c.o (la ++ lb) (andV f g)) :=
  pw_weak (pw_and ha.run hb) fun σ H Q ⟨F, ρ, n, b, n', E, hl, hf, q⟩ => by
    obtain ⟨k, m, e1, e2⟩ := andV_inv hf
    refine ⟨F, ρ, n, k, m, E, nl_l hl, e1, fun F1 H1 st1 E1 => ?_⟩
    cases k with
    | true => exact iteT ⟨F1, ρ, m, b, n', E1, nl_r hl, e2, fun F2 H2 st2 E2 => q F2 H2 (st1.trans st2) E2⟩
    | false =>
      cases (show (PyData.bool b, n') = (PyData.bool false, m) from e2)
      exact iteF (q F1 H1 st1 E1)
theorem EW_or (ha : ET X c a la f) (hb : PW X (.BoolOp .Or (b :: rest) pos) (tT X.K c.wa c.o lb g)) : PW X (.BoolOp .Or (a :: b :: rest) pos) (tT X.K c.wa c.o (la ++ lb) (orV f g)) :=
  pw_weak (pw_or ha.run hb) fun σ H Q ⟨F, ρ, n, b, n', E, hl, hf, q⟩ => by
    obtain ⟨k, m, e1, e2⟩ := orV_inv hf
    refine ⟨F, ρ, n, k, m, E, nl_l hl, e1, fun F1 H1 st1 E1 => ?_⟩
    cases k with
    | false => exact iteF ⟨F1, ρ, m, b, n', E1, nl_r hl, e2, fun F2 H2 st2 E2 => q F2 H2 (st1.trans st2) E2⟩
    | true =>
      cases (show (PyData.bool b, n') = (PyData.bool true, m) from e2)
      exact iteT (q F1 H1 st1 E1)
theorem EX_one {op : BoolOp} (ha : EX X c a la .no f) : EX X c (.BoolOp op [a] pos) la .no f := ⟨pe_one ha.run⟩
theorem EX_and (ha : EX X c a la .no f) (hb : EX X c (.BoolOp .And (b :: rest) pos) lb .no g) : EX X c (.BoolOp .And (a :: b :: rest) pos) (la ++ lb) .no (andV f g) :=
  ⟨pe_weak (pe_and ha.run hb.run) fun σ H Q ⟨F, ρ, n, d, n', E, hl, hf, q⟩ => by
    obtain ⟨k, m, e1, e2⟩ := andV_inv hf
    refine ⟨F, ρ, n, _, m, E, nl_l hl, e1, fun v F1 H1 st1 E1 r1 => ⟨k, ?_, ?_⟩⟩
    · cases (show RD X.K F1 v (.bool k) from r1.1)
      rfl
    · cases k with
      | true => exact iteT ⟨F1, ρ, m, d, n', E1, nl_r hl, e2, fun w F2 H2 st2 E2 r2 => q w F2 H2 (st1.trans st2) E2 (r2.step st1.kn)⟩
      | false =>
        cases (show (d, n') = (PyData.bool false, m) from e2)
        exact iteF (q _ F1 H1 st1 E1 ⟨.bl false, fun z => nomatch z⟩)⟩
theorem EX_or (ha : EX X c a la .no f) (hb : EX X c (.BoolOp .Or (b :: rest) pos) lb .no g) : EX X c (.BoolOp .Or (a :: b :: rest) pos) (la ++ lb) .no (orV f g) :=
  ⟨pe_weak (pe_or ha.run hb.run) fun σ H Q ⟨F, ρ, n, d, n', E, hl, hf, q⟩ => by
    obtain ⟨k, m, e1, e2⟩ := orV_inv hf
    refine ⟨F, ρ, n, _, m, E, nl_l hl, e1, fun v F1 H1 st1 E1 r1 => ⟨k, ?_, ?_⟩⟩
    · cases (show RD X.K F1 v (.bool k) from r1.1)
      rfl
    · cases k with
      | false => exact iteF ⟨F1, ρ, m, d, n', E1, nl_r hl, e2, fun w F2 H2 st2 E2 r2 => q w F2 H2 (st1.trans st2) E2 (r2.step st1.kn)⟩
      | true =>
        cases (show (d, n') = (PyData.bool true, m) from e2)
        exact iteT (q _ F1 H1 st1 E1 ⟨.bl true, fun z => nomatch z⟩)⟩
theorem EX_ite {fr : Fr} {e : Expr} (ht : ET X c e lt t) (ha : EX X c a la fr f) (hb : EX X c b lb fr g) : EX X c (.IfExp e a b pos) (lt ++ (la ++ lb)) fr (iteV t f g) :=
  ⟨pe_weak (pe_ifExp ht.run ha.run hb.run) fun σ H Q ⟨F, ρ, n, d, n', E, hl, hf, q⟩ => by
    obtain ⟨k, m, e1, e2⟩ := iteV_inv hf
    refine ⟨F, ρ, n, k, m, E, nl_l hl, e1, fun F1 H1 st1 E1 => ?_⟩
    cases k with
    | true => exact iteT ⟨F1, ρ, m, d, n', E1, nl_l (nl_r hl), e2, fun w F2 H2 st2 E2 r2 => q w F2 H2 (st1.trans st2) E2 (r2.step st1.kn)⟩
    | false => exact iteF ⟨F1, ρ, m, d, n', E1, nl_r (nl_r hl), e2, fun w F2 H2 st2 E2 r2 => q w F2 H2 (st1.trans st2) E2 (r2.step st1.kn)⟩⟩
/-- a op1 b op2 c -/
def chV (h1 h2 : D → D → Option D) (f g t : DenB) : Den := fun ρ n => (f ρ n).bind fun p => (g ρ p.2).bind fun q => p.1.toD.bind fun x => q.1.toD.bind fun y => (h1 x y).bind fun r => match r with
  | .bool true => (t ρ q.2).bind fun u => u.1.toD.bind fun z => (h2 y z).map (·, u.2)
  | .bool false => some (.bool false, q.2)
  | _ => none
theorem chV_inv {h1 h2 : D → D → Option D} {f g t : DenB} {ρ : En} {n : Nat} {r : D × Nat} (e : chV h1 h2 f g t ρ n = some r) :
    ∃ s m s2 m2 x y b, f ρ n = some (s, m) ∧ g ρ m = some (s2, m2) ∧ s.toD = some x ∧ s2.toD = some y ∧ h1 x y = some (.bool b) ∧
      (if b = true then ∃ s3 z, t ρ m2 = some (s3, r.2) ∧ s3.toD = some z ∧ h2 y z = some r.1 else r = (.bool false, m2)) := by
  unfold chV at e
  cases ef : f ρ n with
  | none => rw [ef] at e; cases e
  | some p =>
    rw [ef] at e
    simp only [Option.bind_some] at e
    cases eg : g ρ p.2 with
    | none => rw [eg] at e; cases e
    | some q =>
      rw [eg] at e
      simp only [Option.bind_some] at e
      cases e1 : p.1.toD with
      | none => rw [e1] at e; cases e
      | some x =>
        rw [e1] at e
        simp only [Option.bind_some] at e
        cases e2 : q.1.toD with
        | none => rw [e2] at e; cases e
        | some y =>
          rw [e2] at e
          simp only [Option.bind_some] at e
          cases e3 : h1 x y with
          | none => rw [e3] at e; cases e
          | some w =>
            rw [e3] at e
            simp only [Option.bind_some] at e
            cases w with
            | bool b =>
              refine ⟨p.1, p.2, q.1, q.2, x, y, b, rfl, by rw [eg], e1, e2, e3, ?_⟩
              cases b with
              | false => exact iteF (by cases e; rfl)
              | true =>
                simp only at e
                cases et : t ρ q.2 with
                | none => rw [et] at e; cases e
                | some u =>
                  rw [et] at e
                  simp only [Option.bind_some] at e
                  cases e4 : u.1.toD with
                  | none => rw [e4] at e; cases e
                  | some z =>
                    rw [e4] at e
                    simp only [Option.bind_some] at e
                    cases e5 : h2 y z with
                    | none => rw [e5] at e; cases e
                    | some w =>
                      rw [e5] at e
                      cases e
                      exact iteT ⟨u.1, z, rfl, e4, e5⟩
            | _ => cases e
theorem RN.bl {K : Frag} {F H H0 : Hp} {fr : Fr} {v : V} {b : Bool} (r : RN K fr F H H0 v (.bool b)) : v = .bl b := by
  have h := r.1
  have hm : mkS fr (.bool b) = .fr (.bool b) := by cases fr <;> rfl
  rw [hm] at h
  cases (show RD K F v (.bool b) from h)
  rfl
theorem chain_weak {h1 h2 : D → D → Option D} {fa fb ft : DenB} {σ : L2.St} {H : Hp} {Q : VK} (q : tI X.K c.wa c.o (la ++ (lb ++ lt)) .no (chV h1 h2 fa fb ft) σ H Q) :
    tChain (rDD X.K h1 .no) (rDD X.K h2 .no) (tB X.K c.wa c.o la fa) (tB X.K c.wa c.o lb fb) (tB X.K c.wa c.o lt ft) σ H Q := by
  obtain ⟨F, ρ, n, d, n', E, hl, hf, q⟩ := q
  obtain ⟨s, m, s2, m2, x, y, b, e1, e2, e3, e4, e5, e6⟩ := chV_inv hf
  refine ⟨F, ρ, n, s, m, E, nl_l hl, e1, fun v F1 H1 st1 E1 r1 => ⟨F1, ρ, m, s2, m2, E1, nl_l (nl_r hl), e2, fun w F2 H2 st2 E2 r2 => ?_⟩⟩
  refine ⟨F2, x, y, _, E2.sb, (r1.step st2).br e3, r2.br e4, e5, fun u F3 H3 st3 r3 => ⟨b, r3.bl, ?_⟩⟩
  have E3 := E2.step0 st3
  cases b with
  | false =>
    cases (show (d, n') = (PyData.bool false, m2) from e6)
    exact iteF (q _ F3 H3 ((st1.trans st2).trans st3.wa) E3 ⟨.bl false, fun z => nomatch z⟩)
  | true =>
    obtain ⟨s3, z, e7, e8, e9⟩ := (show ∃ s3 z, ft ρ m2 = some (s3, n') ∧ s3.toD = some z ∧ h2 y z = some d from e6)
    refine iteT ⟨F3, ρ, m2, s3, n', E3, nl_r (nl_r hl), e7, fun v4 F4 H4 st4 E4 r4 => ?_⟩
    refine ⟨F4, y, z, d, E4.sb, ((r2.step st3.wa).step st4).br e4, r4.br e8, e9, fun v5 F5 H5 st5 r5 => ?_⟩
    exact q v5 F5 H5 ((((st1.trans st2).trans st3.wa).trans st4).trans st5.wa) (E4.step0 st5) ((r5.wa E4.ww).step fun a' ha => st4.kn a' (st3.kn a' (st2.kn a' (st1.kn a' ha))))
theorem EX_chain {op1 op2 : CmpOp} {d : Expr} {h1 h2 : D → D → Option D} {fa fb ft : DenB} (ho : OpR X (compareOp op1) (rDD X.K h1 .no)) (ho2 : OpR X (compareOp op2) (rDD X.K h2 .no)) (ha : EB X c a la fa) (hb : EB X c b lb fb) (hc : EB X c d lt ft)
    (hm : lastMarks [op1, op2] [b, d] = false) : EX X c (.Compare a [op1, op2] [b, d] pos) (la ++ (lb ++ lt)) .no (chV h1 h2 fa fb ft) :=
  ⟨pe_weak (pe_chain ho ho2 ha.run hb.run hc.run hm) fun σ H Q q => chain_weak q⟩
theorem ET_chain {op1 op2 : CmpOp} {d : Expr} {h1 h2 : D → D → Option D} {fa fb ft : DenB} (ho : OpR X (compareOp op1) (rDD X.K h1 .no)) (ho2 : OpR X (compareOp op2) (rDD X.K h2 .no)) (ha : EB X c a la fa) (hb : EB X c b lb fb) (hc : EB X c d lt ft)
    (hm : lastMarks [op1, op2] [b, d] = false) : ET X c (.Compare a [op1, op2] [b, d] pos) (la ++ (lb ++ lt)) (chV h1 h2 fa fb ft) :=
  ⟨pt_weak (pt_chain ho ho2 ha.run hb.run hc.run hm) fun σ H Q q => chain_weak (tI_tT q)⟩
end
end WH

namespace WH
open PySem PySem.Spec PyProof.Rows L2

/-! ## argument lists -/
abbrev DenA := En → Nat → Option (List D × Nat)
abbrev DenAB := En → Nat → Option (List Sl × Nat)
def nilA : DenA := fun _ n => some ([], n)
def consA (f : Den) (g : DenA) : DenA := fun ρ n => (f ρ n).bind fun p => (g ρ p.2).map fun q => (p.1 :: q.1, q.2)
def nilB : DenAB := fun _ n => some ([], n)
def consB (f : DenB) (g : DenAB) : DenAB := fun ρ n => (f ρ n).bind fun p => (g ρ p.2).map fun q => (p.1 :: q.1, q.2)
theorem RDs.step {K : Frag} {wa : Option Addr} {F H F' H' : Hp} (st : Stp (Wx wa) F H F' H') {vs : List V} {ds : List D} (r : RDs K F vs ds) : RDs K F' vs ds := r.mono st.sb
section
variable {X : Cx} {c : Dc} {e : Expr} {es : List Expr} {la lb : List Nat} {f : Den} {g : DenA} {fb : DenB} {gb : DenAB}
theorem EA_nil : EA X c [] [] nilA := ⟨pa_weak pa_nil fun σ H Q ⟨F, ρ, n, ds, n', E, hl, hf, q⟩ => by
  cases hf
  exact q [] F H (.refl E.sb) E .nil⟩
theorem EA_cons (ha : EX X c e la .no f) (hr : EA X c es lb g) (hs : starEach (e :: es) X.env = (false, eval e X.env) :: starEach es X.env) : EA X c (e :: es) (la ++ lb) (consA f g) :=
  ⟨pa_weak (pa_cons ha.run hr.run hs) fun σ H Q ⟨F, ρ, n, ds, n', E, hl, hf, q⟩ => by
    unfold consA at hf
    cases ef : f ρ n with
    | none => rw [ef] at hf; cases hf
    | some p =>
      rw [ef] at hf
      simp only [Option.bind_some] at hf
      cases eg : g ρ p.2 with
      | none => rw [eg] at hf; cases hf
      | some r =>
        rw [eg] at hf
        cases hf
        exact ⟨F, ρ, n, p.1, p.2, E, nl_l hl, ef, fun v F1 H1 st1 E1 r1 => ⟨F1, ρ, p.2, r.1, r.2, E1, nl_r hl, eg, fun vs F2 H2 st2 E2 r2 => q (v :: vs) F2 H2 (st1.trans st2) E2 (.cons (RD.mono st2.sb r1.1) r2)⟩⟩⟩
theorem EAB_nil : EAB X c [] [] nilB := ⟨pa_weak pa_nil fun σ H Q ⟨F, ρ, n, ds, n', E, hl, hf, q⟩ => by
  cases hf
  exact q [] F H (.refl E.sb) E .nil⟩
theorem EAB_cons (ha : EB X c e la fb) (hr : EAB X c es lb gb) (hs : starEach (e :: es) X.env = (false, eval e X.env) :: starEach es X.env) : EAB X c (e :: es) (la ++ lb) (consB fb gb) :=
  ⟨pa_weak (pa_cons ha.run hr.run hs) fun σ H Q ⟨F, ρ, n, ds, n', E, hl, hf, q⟩ => by
    unfold consB at hf
    cases ef : fb ρ n with
    | none => rw [ef] at hf; cases hf
    | some p =>
      rw [ef] at hf
      simp only [Option.bind_some] at hf
      cases eg : gb ρ p.2 with
      | none => rw [eg] at hf; cases hf
      | some r =>
        rw [eg] at hf
        cases hf
        exact ⟨F, ρ, n, p.1, p.2, E, nl_l hl, ef, fun v F1 H1 st1 E1 r1 => ⟨F1, ρ, p.2, r.1, r.2, E1, nl_r hl, eg, fun vs F2 H2 st2 E2 r2 => q (v :: vs) F2 H2 (st1.trans st2) E2 (.cons (r1.step st2) r2)⟩⟩⟩

/-! ## displays -/
def tupV (g : DenA) : Den := fun ρ n => (g ρ n).bind fun p => if p.1.length ≤ LIM then some (.tuple p.1, p.2) else none
def lstV (g : DenA) : Den := fun ρ n => (g ρ n).bind fun p => if p.1.length ≤ LIM then some (.list p.1, p.2) else none
theorem EX_tup {k : Nat} {pos : Pos} (h : EA X c es la g) : EX X c (.Tuple es k pos) la .no (tupV g) := ⟨pe_weak (pe_tup h.run) fun σ H Q ⟨F, ρ, n, d, n', E, hl, hf, q⟩ => by
  unfold tupV at hf
  cases eg : g ρ n with
  | none => rw [eg] at hf; cases hf
  | some p =>
    rw [eg] at hf
    simp only [Option.bind_some] at hf
    split at hf
    · rename_i hz
      cases hf
      refine ⟨F, ρ, n, p.1, p.2, E, hl, eg, fun vs F1 H1 st1 E1 r1 => ⟨LIM_le (by rw [r1.length]; exact hz), fun a ha => ?_⟩⟩
      have st2 : Stp N0 F1 H1 (upd F1 a (.tup vs)) (upd H1 a (.tup vs)) := .new E1.sb ha
      exact q _ _ _ (st1.trans st2.wa) (E1.step0 st2) ⟨RD.tup upd_same (r1.mono st2.sb), fun z => nomatch z⟩
    · cases hf⟩
theorem EX_lst {pos : Pos} (h : EA X c es la g) : EX X c (.List es pos) la (.own false) (lstV g) := ⟨pe_weak (pe_lst h.run) fun σ H Q ⟨F, ρ, n, d, n', E, hl, hf, q⟩ => by
  unfold lstV at hf
  cases eg : g ρ n with
  | none => rw [eg] at hf; cases hf
  | some p =>
    rw [eg] at hf
    simp only [Option.bind_some] at hf
    split at hf
    · rename_i hz
      cases hf
      refine ⟨F, ρ, n, p.1, p.2, E, hl, eg, fun vs F1 H1 st1 E1 r1 => ⟨LIM_le (by rw [r1.length]; exact hz), fun a ha => ?_⟩⟩
      have st2 : Stp N0 F1 H1 F1 (upd H1 a (.lst vs)) := .raw E1.sb ha
      exact q _ _ _ (st1.trans st2.wa) (E1.step0 st2) (((RN.lst E1.sb ha r1).wa E1.ww).step st1.kn)
    · cases hf⟩

/-! ## calls of built-ins, by data -/
def toDs : List Sl → Option (List D)
  | [] => some []
  | s :: r => s.toD.bind fun d => (toDs r).map (d :: ·)
def BRs (K : Frag) (F H : Hp) : List V → List D → Prop := Paired (BR K F H)
theorem brs_of {K : Frag} {wa : Option Addr} {F H : Hp} : ∀ {vs : List V} {ss : List Sl} {ds : List D}, Paired (fun v s => SR K wa F H s v) vs ss → toDs ss = some ds → BRs K F H vs ds
  | _, _, _, .nil, h => by cases h; exact .nil
  | _, _, _, .cons (l₂ := r) (b := s) q t, h => by
    unfold toDs at h
    cases e1 : s.toD with
    | none => rw [e1] at h; cases h
    | some d =>
      rw [e1] at h
      simp only [Option.bind_some] at h
      cases e2 : toDs r with
      | none => rw [e2] at h; cases h
      | some ds =>
        rw [e2] at h
        cases h
        exact .cons (q.br e1) (brs_of t e2)
def rDn (K : Frag) (h : List D → Option D) (fr : Fr) : List V → Hp → VK → Prop := fun vs H Q => ∃ F ds r, Sb F H ∧ BRs K F H vs ds ∧ h ds = some r ∧ ∀ v F' H', Stp N0 F H F' H' → RN K fr F' H' H v r → Q v H'
def call1 (h : List D → Option D) (g : DenAB) : Den := fun ρ n => (g ρ n).bind fun p => (toDs p.1).bind fun ds => (h ds).map (·, p.2)
theorem call1_inv {h : List D → Option D} {g : DenAB} {ρ : En} {n n' : Nat} {d : D} (e : call1 h g ρ n = some (d, n')) : ∃ ss ds, g ρ n = some (ss, n') ∧ toDs ss = some ds ∧ h ds = some d := by
  unfold call1 at e
  cases ef : g ρ n with
  | none => rw [ef] at e; cases e
  | some p =>
    rw [ef] at e
    simp only [Option.bind_some] at e
    cases e1 : toDs p.1 with
    | none => rw [e1] at e; cases e
    | some x =>
      rw [e1] at e
      simp only [Option.bind_some] at e
      cases e3 : h x with
      | none => rw [e3] at e; cases e
      | some r =>
        rw [e3] at e
        cases e
        exact ⟨p.1, x, by rw [← ef], e1, e3⟩
theorem call_weak {h : List D → Option D} {fr : Fr} {σ : L2.St} {H : Hp} {Q : VK} (q : tI X.K c.wa c.o la fr (call1 h gb) σ H Q) : tAB X.K c.wa c.o la gb σ H fun vs H1 => rDn X.K h fr vs H1 Q := by
  obtain ⟨F, ρ, n, d, n', E, hl, hf, q⟩ := q
  obtain ⟨ss, ds, e1, e2, e3⟩ := call1_inv hf
  refine ⟨F, ρ, n, ss, n', E, hl, e1, fun vs F1 H1 st1 E1 r1 => ⟨F1, ds, d, E1.sb, brs_of r1 e2, e3, fun u F3 H3 st3 r3 => ?_⟩⟩
  exact q u F3 H3 (st1.trans st3.wa) (E1.step0 st3) ((r3.wa E1.ww).step st1.kn)
theorem EX_callB {x : Str} {id : String} {h : List D → Option D} {fr : Fr} {p pos : Pos} (hc : CallR X (.builtin id) (rDn X.K h fr)) (hg : Gl X x) (hm : X.mg x = none) (hv : bootBuiltins x = some (.builtin id)) (ha : EAB X c (e :: es) la gb) (hn : x ≠ "__name__") (hdb : (x == ("__debug__" : Str)) = false)
    (he : starEach (e :: es) X.env = (false, eval e X.env) :: starEach es X.env) (hpl : (backTo pos (starEach es X.env)).any (·.1) = false) : EX X c (.Call (.Name x p) (e :: es) [] pos) la fr (call1 h gb) :=
  ⟨pe_weak (pe_callB hc hg hm hv ha.run hn hdb he hpl) fun σ H Q q => call_weak q⟩
theorem EX_callTy {x : Str} {T : String} {h : List D → Option D} {fr : Fr} {p pos : Pos} (hc : CallR X (.type T) (rDn X.K h fr)) (hg : Gl X x) (hm : X.mg x = none) (hv : bootBuiltins x = some (.type T)) (ha : EAB X c (e :: es) la gb) (hn : x ≠ "__name__") (hdb : (x == ("__debug__" : Str)) = false)
    (he : starEach (e :: es) X.env = (false, eval e X.env) :: starEach es X.env) (hpl : (backTo pos (starEach es X.env)).any (·.1) = false) : EX X c (.Call (.Name x p) (e :: es) [] pos) la fr (call1 h gb) :=
  ⟨pe_weak (pe_callTy hc hg hm hv ha.run hn hdb he hpl) fun σ H Q q => call_weak q⟩
end

/-! ## the built-ins -/
def intsOf : List D → Option (List Int)
  | [] => some []
  | .int i :: r => (intsOf r).map (i :: ·)
  | _ => none
theorem intsOf_spec : ∀ {ds : List D} {ns : List Int}, intsOf ds = some ns → ds = ns.map .int
  | [], _, h => by cases h; rfl
  | .int i :: r, ns, h => by
    unfold intsOf at h
    cases e : intsOf r with
    | none => rw [e] at h; cases h
    | some ms => rw [e] at h; cases h; rw [intsOf_spec e] <;> rfl
  | .none :: _, _, h => by cases h
  | .bool _ :: _, _, h => by cases h
  | .str _ :: _, _, h => by cases h
  | .list _ :: _, _, h => by cases h
  | .tuple _ :: _, _, h => by cases h
  | .dict _ :: _, _, h => by cases h
def boolsOf : List D → Option (List Bool)
  | [] => some []
  | .bool i :: r => (boolsOf r).map (i :: ·)
  | _ => none
theorem boolsOf_spec : ∀ {ds : List D} {ns : List Bool}, boolsOf ds = some ns → ds = ns.map .bool
  | [], _, h => by cases h; rfl
  | .bool i :: r, ns, h => by
    unfold boolsOf at h
    cases e : boolsOf r with
    | none => rw [e] at h; cases h
    | some ms => rw [e] at h; cases h; rw [boolsOf_spec e] <;> rfl
  | .none :: _, _, h => by cases h
  | .int _ :: _, _, h => by cases h
  | .str _ :: _, _, h => by cases h
  | .list _ :: _, _, h => by cases h
  | .tuple _ :: _, _, h => by cases h
  | .dict _ :: _, _, h => by cases h
theorem RDs.bools {K : Frag} {F : Hp} : ∀ {vs : List V} {ns : List Bool}, RDs K F vs (ns.map .bool) → vs = ns.map V.bl
  | _, [], .nil => rfl
  | _, n :: ns, .cons q r => by cases q; rw [RDs.bools r] <;> rfl
theorem RDk.length {K : Frag} {F : Hp} : ∀ {vs : List (Key × V)} {ds : List (D × D)}, RDk K F vs ds → vs.length = ds.length
  | _, _, .nil => rfl
  | _, _, .cons _ r => by rw [List.length_cons, List.length_cons, RDk.length r]
theorem RDt.length {K : Frag} {F : Hp} : ∀ {vs : List (List Key × V)} {ds : List (D × D)}, RDt K F vs ds → vs.length = ds.length
  | _, _, .nil => rfl
  | _, _, .cons _ r => by rw [List.length_cons, List.length_cons, RDt.length r]
theorem brs1 {K : Frag} {F H : Hp} {vs : List V} {d : D} (h : BRs K F H vs [d]) : ∃ v, vs = [v] ∧ BR K F H v d := by
  cases h with
  | cons q r => cases r; exact ⟨_, rfl, q⟩
theorem brs2 {K : Frag} {F H : Hp} {vs : List V} {d e : D} (h : BRs K F H vs [d, e]) : ∃ v w, vs = [v, w] ∧ BR K F H v d ∧ BR K F H w e := by
  cases h with
  | cons q r => cases r with
    | cons q2 r2 => cases r2; exact ⟨_, _, rfl, q, q2⟩
theorem vals1_ref {a : Addr} {us : List Value} (r : Vals [V.ref a] us) : us = [Value.ref a] := Vals.ref1 r
def lenD : List D → Option D
  | [.list ds] => some (.int ds.length)
  | [.tuple ds] => some (.int ds.length)
  | [.str s] => if s.length ≤ LIM then some (.int s.length) else none
  | [.dict ps] => some (.int ps.length)
  | _ => none
def absD : List D → Option D
  | [.int i] => some (.int (if i < 0 then -i else i))
  | _ => none
def intD : List D → Option D
  | [.int i] => some (.int i)
  | [.bool k] => some (.int (if k then 1 else 0))
  | _ => none
def alikeAllB (ds : List D) : Bool := ds.all fun x => (ds.all fun y => PySem.W.alike x y) && (match x with | .none => false | _ => true)
def okAll (ds : List D) : Bool := alikeAllB ds && PyData.plainAll ds && decide (PyData.depthAll ds ≤ 30)
def maxD' : List D → Option D
  | [.int i, .int j] => some (.int (if j > i then j else i))
  | [.list (d :: ds)] => if okAll (d :: ds) then some (PySem.W.maxD d ds) else none
  | [.tuple (d :: ds)] => if okAll (d :: ds) then some (PySem.W.maxD d ds) else none
  | _ => none
def minD' : List D → Option D
  | [.int i, .int j] => some (.int (if j < i then j else i))
  | [.list (d :: ds)] => if okAll (d :: ds) then some (PySem.W.minD d ds) else none
  | [.tuple (d :: ds)] => if okAll (d :: ds) then some (PySem.W.minD d ds) else none
  | _ => none
def sumD : List D → Option D
  | [.list ds] => (intsOf ds).map fun ns => .int ns.sum
  | [.tuple ds] => (intsOf ds).map fun ns => .int ns.sum
  | _ => none
def anyD : List D → Option D
  | [.list ds] => (boolsOf ds).map fun ns => .bool (ns.any id)
  | _ => none
def allD : List D → Option D
  | [.list ds] => (boolsOf ds).map fun ns => .bool (ns.all id)
  | _ => none
def tupD : List D → Option D
  | [.list ds] => some (.tuple ds)
  | [.tuple ds] => some (.tuple ds)
  | _ => none
def lstD : List D → Option D
  | [.list ds] => some (.list ds)
  | [.tuple ds] => some (.list ds)
  | _ => none
def strD : List D → Option D
  | [.int i] => if smallI i then some (.str (toString i)) else none
  | _ => none
section
variable {X : Cx}
theorem c_len : CallR X (.builtin "len") (rDn X.K lenD .no) := fun pins s σ H vs us Q I rv ⟨F, ds, r, sb, hb, hh, q⟩ => by
  unfold lenD at hh
  split at hh
  · cases hh
    obtain ⟨v, rfl, h1⟩ := brs1 hb
    obtain ⟨a, xs, rfl, q1, r1⟩ := h1.list sb
    refine call_len_seq pins s σ H _ us Q I rv ⟨a, xs, rfl, .inl (.inl q1), ?_⟩
    rw [r1.length]
    exact fin_int sb q
  · cases hh
    obtain ⟨v, rfl, h1⟩ := brs1 hb
    obtain ⟨a, xs, rfl, q1, r1⟩ := h1.tuple sb
    refine call_len_seq pins s σ H _ us Q I rv ⟨a, xs, rfl, .inr q1, ?_⟩
    rw [r1.length]
    exact fin_int sb q
  · split at hh
    · rename_i hz
      cases hh
      obtain ⟨v, rfl, h1⟩ := brs1 hb
      cases h1.str
      exact call_len_str pins s σ H _ us Q I rv ⟨_, rfl, LIM_le hz, fin_int sb q⟩
    · cases hh
  · rename_i ps
    cases hh
    obtain ⟨v, rfl, h1⟩ := brs1 hb
    have key : (∃ a kvs, v = .ref a ∧ Rd H a (.dK kvs) ∧ RDk X.K H kvs ps) ∨ (∃ a kvs, v = .ref a ∧ Rd H a (.dT kvs) ∧ RDt X.K H kvs ps) := by
      cases h1.deep sb with
      | dk q r => exact .inl ⟨_, _, rfl, q.rd, r⟩
      | dt q r => exact .inr ⟨_, _, rfl, q.rd, r⟩
    rcases key with ⟨a, kvs, rfl, q1, r1⟩ | ⟨a, kvs, rfl, q1, r1⟩
    · rw [vals1_ref rv]
      refine d_len I q1 fun t s' I' => ⟨.int kvs.length, H, I', ⟨t, rfl⟩, ?_⟩
      rw [r1.length]
      exact fin_int sb q
    · rw [vals1_ref rv]
      obtain ⟨z, hd, ys, rel, dd⟩ := dt_rd I.hok q1
      have hl : kvs.length = ys.length := Paired.length rel
      refine PySem.call_len_dictH hd dd (by rw [← hl]; rw [sizeLine_eq] at z; omega) ?_
      rw [← hl]
      refine ⟨.int ((kvs.length : Nat) : Int), H, I.tok _, ⟨_, rfl⟩, ?_⟩
      rw [r1.length]
      exact fin_int sb q
  · cases hh
theorem c_abs : CallR X (.builtin "abs") (rDn X.K absD .no) := fun pins s σ H vs us Q I rv ⟨F, ds, r, sb, hb, hh, q⟩ => by
  unfold absD at hh
  split at hh
  · cases hh
    obtain ⟨v, rfl, h1⟩ := brs1 hb
    cases h1.int
    exact call_abs pins s σ H _ us Q I rv ⟨_, rfl, fin_int sb q⟩
  · cases hh
theorem c_int : CallR X (.type "int") (rDn X.K intD .no) := fun pins s σ H vs us Q I rv ⟨F, ds, r, sb, hb, hh, q⟩ => by
  unfold intD at hh
  split at hh
  · cases hh
    obtain ⟨v, rfl, h1⟩ := brs1 hb
    cases h1.int
    exact call_int1 pins s σ H _ us Q I rv (.inl ⟨_, rfl, fin_int sb q⟩)
  · cases hh
    obtain ⟨v, rfl, h1⟩ := brs1 hb
    cases h1.bool
    exact call_int1 pins s σ H _ us Q I rv (.inr ⟨_, rfl, fin_int sb q⟩)
  · cases hh
theorem c_str : CallR X (.type "str") (rDn X.K strD .no) := fun pins s σ H vs us Q I rv ⟨F, ds, r, sb, hb, hh, q⟩ => by
  unfold strD at hh
  split at hh
  · split at hh
    · rename_i i hz
      cases hh
      obtain ⟨v, rfl, h1⟩ := brs1 hb
      cases h1.int
      refine call_str_int pins s σ H _ us Q I rv ⟨_, rfl, ?_, fin_str sb q⟩
      have := smallI_spec hz
      exact Nat.lt_of_le_of_lt (show i.natAbs.log2 ≤ 64 by
        by_cases h0 : i.natAbs = 0
        · rw [h0]; decide
        · exact Nat.le_of_lt ((Nat.log2_lt h0).mpr (by omega))) (by decide)
    · cases hh
  · cases hh
theorem alikeAll_of {ds : List D} (h : alikeAllB ds = true) : PySem.W.AlikeAll ds := by
  unfold alikeAllB at h
  simp only [List.all_eq_true, Bool.and_eq_true] at h
  refine ⟨fun x hx y hy => (h x hx).1 y hy, fun x hx e => ?_⟩
  have := (h x hx).2
  rw [e] at this
  cases this
theorem okAll_spec {ds : List D} (h : okAll ds = true) : PySem.W.AlikeAll ds ∧ PyData.plainAll ds = true ∧ PyData.depthAll ds ≤ 30 := by
  unfold okAll at h
  simp only [Bool.and_eq_true, decide_eq_true_eq] at h
  exact ⟨alikeAll_of h.1.1, h.1.2, h.2⟩
theorem plainAll_get : ∀ {ds : List D} {i : Nat} {d : D}, PyData.plainAll ds = true → ds[i]? = some d → d.plain = true
  | [], _, _, _, h => by simp at h
  | d :: ds, 0, _, hp, h => by simp at h; subst h; exact (by simpa [PyData.plainAll] using hp : d.plain = true ∧ _).1
  | d :: ds, i + 1, _, hp, h => plainAll_get (ds := ds) (i := i) (by simpa [PyData.plainAll] using hp : d.plain = true ∧ _).2 (by simpa using h)
/-- an item of a sequence that reads as d0 is known as d0 -/
theorem item_known {pins : List (Addr × Obj)} {s : Shared} {σ : L2.St} {H F : Hp} {its : List Value} {xs : List V} {ds : List D} {i : Nat} {v : Value} {d0 : D} {bs : List Addr} {h' : Heap} (I : L2.Inv X pins σ H s) (sb : Sb F H)
    (rv : Vals xs its) (r1 : RDs X.K F xs ds) (hp : PyData.plainAll ds = true) (hv : its.toArray[i]? = some v) (hr : Reads h' v d0 bs) (hk : ∀ b o, s.heap.get? b = some o → h'.get? b = some o) :
    ∃ x, RelV x v ∧ RD X.K F x d0 := by
  have hv' : its[i]? = some v := by simpa using hv
  have hi : i < ds.length := by
    rw [← r1.length, rv.length]
    rw [List.getElem?_eq_some_iff] at hv'
    exact hv'.1
  obtain ⟨x, hx, rx⟩ := r1.get (List.getElem?_eq_getElem hi)
  obtain ⟨u, hu, ru⟩ := rv.get hx
  rw [hv'] at hu
  cases hu
  have pl : (ds[i]).plain = true := plainAll_get hp (List.getElem?_eq_getElem hi)
  obtain ⟨as, rr⟩ := Dp.reads I _ x v (RD.dp _ (rx.mono sb) pl) ru
  have e := SeqAt.plain_unique _ _ v as bs pl (Reads.keeps hk rr) hr
  exact ⟨x, ru, e ▸ rx⟩
theorem c_max (hc : X.calm = true) (hu : X.A.units + 64 < cLine) : CallR X (.builtin "max") (rDn X.K maxD' .no) := fun pins s σ H vs us Q I rv ⟨F, ds, r, sb, hb, hh, q⟩ => by
  unfold maxD' at hh
  split at hh
  · cases hh
    obtain ⟨v, w, rfl, h1, h2⟩ := brs2 hb
    cases h1.int
    cases h2.int
    exact call_max2 hc pins s σ H _ us Q I rv ⟨_, _, rfl, fin_int sb q⟩
  · split at hh
    · rename_i hz
      cases hh
      obtain ⟨z1, z2, z3⟩ := okAll_spec hz
      obtain ⟨v, rfl, h1⟩ := brs1 hb
      obtain ⟨a, xs, rfl, q1, r1⟩ := h1.list sb
      rw [vals1_ref rv]
      obtain ⟨its, rv2, hl, _⟩ := I.list (.inl q1)
      obtain ⟨as, hr⟩ := Dp.readsAll I _ xs its (RDs.dp _ (r1.mono sb) z2) rv2
      refine PySem.W.max_list_data (I.ok.hd hc) hl.isList (by simpa using hr) z1 (by omega) fun i v h' tk bs hv hr' hk => ?_
      obtain ⟨x, rx, r2⟩ := item_known I sb rv2 r1 z2 hv hr' hk
      exact ⟨x, H, I.kept hk, rx, q x F H (.refl sb) (.no r2)⟩
    · cases hh
  · split at hh
    · rename_i hz
      cases hh
      obtain ⟨z1, z2, z3⟩ := okAll_spec hz
      obtain ⟨v, rfl, h1⟩ := brs1 hb
      obtain ⟨a, xs, rfl, q1, r1⟩ := h1.tuple sb
      rw [vals1_ref rv]
      obtain ⟨its, rv2, hl, _⟩ := I.tuple q1
      obtain ⟨as, hr⟩ := Dp.readsAll I _ xs its (RDs.dp _ (r1.mono sb) z2) rv2
      refine PySem.W.max_tuple_data (I.ok.hd hc) hl (by simpa using hr) z1 (by omega) fun i v h' tk bs hv hr' hk => ?_
      obtain ⟨x, rx, r2⟩ := item_known I sb rv2 r1 z2 hv hr' hk
      exact ⟨x, H, I.kept hk, rx, q x F H (.refl sb) (.no r2)⟩
    · cases hh
  · cases hh
theorem c_min (hc : X.calm = true) (hu : X.A.units + 64 < cLine) : CallR X (.builtin "min") (rDn X.K minD' .no) := fun pins s σ H vs us Q I rv ⟨F, ds, r, sb, hb, hh, q⟩ => by
  unfold minD' at hh
  split at hh
  · cases hh
    obtain ⟨v, w, rfl, h1, h2⟩ := brs2 hb
    cases h1.int
    cases h2.int
    exact call_min2 hc pins s σ H _ us Q I rv ⟨_, _, rfl, fin_int sb q⟩
  · split at hh
    · rename_i hz
      cases hh
      obtain ⟨z1, z2, z3⟩ := okAll_spec hz
      obtain ⟨v, rfl, h1⟩ := brs1 hb
      obtain ⟨a, xs, rfl, q1, r1⟩ := h1.list sb
      rw [vals1_ref rv]
      obtain ⟨its, rv2, hl, _⟩ := I.list (.inl q1)
      obtain ⟨as, hr⟩ := Dp.readsAll I _ xs its (RDs.dp _ (r1.mono sb) z2) rv2
      refine PySem.W.min_list_data (I.ok.hd hc) hl.isList (by simpa using hr) z1 (by omega) fun i v h' tk bs hv hr' hk => ?_
      obtain ⟨x, rx, r2⟩ := item_known I sb rv2 r1 z2 hv hr' hk
      exact ⟨x, H, I.kept hk, rx, q x F H (.refl sb) (.no r2)⟩
    · cases hh
  · split at hh
    · rename_i hz
      cases hh
      obtain ⟨z1, z2, z3⟩ := okAll_spec hz
      obtain ⟨v, rfl, h1⟩ := brs1 hb
      obtain ⟨a, xs, rfl, q1, r1⟩ := h1.tuple sb
      rw [vals1_ref rv]
      obtain ⟨its, rv2, hl, _⟩ := I.tuple q1
      obtain ⟨as, hr⟩ := Dp.readsAll I _ xs its (RDs.dp _ (r1.mono sb) z2) rv2
      refine PySem.W.min_tuple_data (I.ok.hd hc) hl (by simpa using hr) z1 (by omega) fun i v h' tk bs hv hr' hk => ?_
      obtain ⟨x, rx, r2⟩ := item_known I sb rv2 r1 z2 hv hr' hk
      exact ⟨x, H, I.kept hk, rx, q x F H (.refl sb) (.no r2)⟩
    · cases hh
  · cases hh
theorem c_sum (hc : X.calm = true) : CallR X (.builtin "sum") (rDn X.K sumD .no) := fun pins s σ H vs us Q I rv ⟨F, ds, r, sb, hb, hh, q⟩ => by
  unfold sumD at hh
  split at hh
  · rename_i ds
    cases e : intsOf ds with
    | none => rw [e] at hh; cases hh
    | some ns =>
      rw [e] at hh
      cases hh
      cases intsOf_spec e
      obtain ⟨v, rfl, h1⟩ := brs1 hb
      obtain ⟨a, xs, rfl, q1, r1⟩ := h1.list sb
      have ex := r1.ints
      subst ex
      exact cr_sum hc pins s σ H _ us Q I rv ⟨a, ns, rfl, .inl q1, fin_int sb q⟩
  · rename_i ds
    cases e : intsOf ds with
    | none => rw [e] at hh; cases hh
    | some ns =>
      rw [e] at hh
      cases hh
      cases intsOf_spec e
      obtain ⟨v, rfl, h1⟩ := brs1 hb
      obtain ⟨a, xs, rfl, q1, r1⟩ := h1.tuple sb
      have ex := r1.ints
      subst ex
      rw [vals1_ref rv]
      obtain ⟨its, rv2, hl, _⟩ := I.tuple q1
      have hi := Vals.ints rv2
      obtain ⟨xs, hx⟩ := hi.allInts.items
      have hn : numsOf its.toArray.toList = ns := by rw [show its.toArray.toList = its from rfl, hi.numsOf]
      have hx' : its.toArray = intItems xs := hx
      rw [hx'] at hl hn
      rw [nums_intItems] at hn
      refine PySem.W.ktm_sumG (I.ok.hd hc) hl fun h' tk t' hk => ?_
      rw [preSum_eq, List.take_of_length_le (by simp), hn]
      exact ⟨.int _, H, I.kept hk, ⟨_, rfl⟩, fin_int sb q⟩
  · cases hh
theorem c_any (hc : X.calm = true) : CallR X (.builtin "any") (rDn X.K anyD .no) := fun pins s σ H vs us Q I rv ⟨F, ds, r, sb, hb, hh, q⟩ => by
  unfold anyD at hh
  split at hh
  · rename_i ds
    cases e : boolsOf ds with
    | none => rw [e] at hh; cases hh
    | some ns =>
      rw [e] at hh
      cases hh
      cases boolsOf_spec e
      obtain ⟨v, rfl, h1⟩ := brs1 hb
      obtain ⟨a, xs, rfl, q1, r1⟩ := h1.list sb
      have ex := r1.bools
      subst ex
      exact cr_any hc pins s σ H _ us Q I rv ⟨a, ns, rfl, .inl q1, fin_bool sb q⟩
  · cases hh
theorem c_all (hc : X.calm = true) : CallR X (.builtin "all") (rDn X.K allD .no) := fun pins s σ H vs us Q I rv ⟨F, ds, r, sb, hb, hh, q⟩ => by
  unfold allD at hh
  split at hh
  · rename_i ds
    cases e : boolsOf ds with
    | none => rw [e] at hh; cases hh
    | some ns =>
      rw [e] at hh
      cases hh
      cases boolsOf_spec e
      obtain ⟨v, rfl, h1⟩ := brs1 hb
      obtain ⟨a, xs, rfl, q1, r1⟩ := h1.list sb
      have ex := r1.bools
      subst ex
      exact cr_all hc pins s σ H _ us Q I rv ⟨a, ns, rfl, .inl q1, fin_bool sb q⟩
  · cases hh
theorem c_tuple : CallR X (.type "tuple") (rDn X.K tupD .no) := fun pins s σ H vs us Q I rv ⟨F, ds, r, sb, hb, hh, q⟩ => by
  unfold tupD at hh
  split at hh
  · cases hh
    obtain ⟨v, rfl, h1⟩ := brs1 hb
    obtain ⟨a, xs, rfl, q1, r1⟩ := h1.list sb
    exact call_tuple_of pins s σ H _ us Q I rv ⟨a, xs, rfl, .inl ⟨.inl q1, fin_tup sb r1 q⟩⟩
  · cases hh
    obtain ⟨v, rfl, h1⟩ := brs1 hb
    obtain ⟨a, xs, rfl, q1, r1⟩ := h1.tuple sb
    refine call_tuple_of pins s σ H _ us Q I rv ⟨a, xs, rfl, .inr ⟨q1, ?_⟩⟩
    cases h1 with
    | rd h1 => exact q _ F H (.refl sb) (.no h1)
  · cases hh
theorem c_list : CallR X (.type "list") (rDn X.K lstD (.own false)) := fun pins s σ H vs us Q I rv ⟨F, ds, r, sb, hb, hh, q⟩ => by
  unfold lstD at hh
  split at hh
  · cases hh
    obtain ⟨v, rfl, h1⟩ := brs1 hb
    obtain ⟨a, xs, rfl, q1, r1⟩ := h1.list sb
    exact call_list_of pins s σ H _ us Q I rv ⟨a, xs, rfl, .inl (.inl q1), fin_lst sb r1 q⟩
  · cases hh
    obtain ⟨v, rfl, h1⟩ := brs1 hb
    obtain ⟨a, xs, rfl, q1, r1⟩ := h1.tuple sb
    exact call_list_of pins s σ H _ us Q I rv ⟨a, xs, rfl, .inr q1, fin_lst sb r1 q⟩
  · cases hh
end
end WH

namespace HT
open PySem PySem.Spec PyProof.Rows
section
variable {prog : Program} {w : World} {A : Around} {E : Value → Shared → Prop} {s : Shared}
theorem adjust_rev (n : Nat) : Builtin.Slice.sliceAdjust none none (-1) (n : Int) = ((n : Int) - 1, -1) := by
  unfold Builtin.Slice.sliceAdjust
  have h1 : ((-1 : Int) < 0) := by omega
  simp only [h1, if_true]
theorem places_rev (n : Nat) : Builtin.Slice.slicePlaces ((n : Int) - 1) (-1) (-1) = n := by
  unfold Builtin.Slice.slicePlaces
  have h1 : ¬ ((-1 : Int) > 0) := by omega
  simp only [h1, if_false]
  by_cases h : n = 0
  · subst h; rfl
  · rw [if_pos (by omega)]
    simp only [Int.neg_neg, Int.ediv_one]
    omega
theorem rev_pick {α : Type} : ∀ (r : List α), (List.range r.length).filterMap (fun m => r.reverse[r.length - 1 - m]?) = r
  | [] => rfl
  | a :: r => by
    have ih := rev_pick r
    rw [List.length_cons, List.range_succ_eq_map, List.filterMap_cons]
    have e0 : (a :: r).reverse[r.length + 1 - 1 - 0]? = some a := by
      rw [List.reverse_cons, List.getElem?_append_right (by simp)]
      simp
    rw [e0]
    simp only
    rw [List.filterMap_map]
    congr 1
    have : ∀ m ∈ List.range r.length, ((fun m => (a :: r).reverse[r.length + 1 - 1 - m]?) ∘ Nat.succ) m = (fun m => r.reverse[r.length - 1 - m]?) m := fun m hm => by
      have hm' : m < r.length := List.mem_range.mp hm
      show (a :: r).reverse[r.length + 1 - 1 - (m + 1)]? = r.reverse[r.length - 1 - m]?
      have e1 : r.length + 1 - 1 - (m + 1) = r.length - 1 - m := by omega
      rw [e1, List.reverse_cons, List.getElem?_append_left (by rw [List.length_reverse]; omega)]
    have key : ∀ (l : List Nat) (f g : Nat → Option α), (∀ m ∈ l, f m = g m) → l.filterMap f = l.filterMap g := fun l f g h => by
      induction l with
      | nil => rfl
      | cons x l ihl =>
        rw [List.filterMap_cons, List.filterMap_cons, h x List.mem_cons_self, ihl fun m hm => h m (List.mem_cons_of_mem _ hm)]
    rw [key _ _ _ this, ih]
theorem pick_rev (xs : Array Value) : ((List.range xs.size).filterMap fun (m : Nat) => xs[(((xs.size : Int) - 1) + (m : Int) * (-1)).toNat]?).toArray = xs.toList.reverse.toArray := by
  congr 1
  have h := rev_pick xs.toList.reverse
  rw [List.reverse_reverse, List.length_reverse, Array.length_toList] at h
  conv => rhs; rw [← h]
  have key : ∀ (l : List Nat) (f g : Nat → Option Value), (∀ m ∈ l, f m = g m) → l.filterMap f = l.filterMap g := fun l f g h => by
    induction l with
    | nil => rfl
    | cons x l ihl =>
      rw [List.filterMap_cons, List.filterMap_cons, h x List.mem_cons_self, ihl fun m hm => h m (List.mem_cons_of_mem _ hm)]
  refine key _ _ _ fun m hm => ?_
  have hm' : m < xs.size := List.mem_range.mp hm
  have e1 : (((xs.size : Int) - 1) + (m : Int) * (-1)).toNat = xs.size - 1 - m := by omega
  rw [e1]
  simp
theorem getItem_tuple_rev {t sl : Addr} {items : Array Value} {k : Tok} {Q : Value → Shared → Prop} (ht : IsTup s.heap t items) (hs : s.heap.IsSliceOf sl .none .none (.int (-1) k))
    (h : Q (.ref s.heap.objs.size) { s with heap := s.heap.push { cls := .type "tuple", data := .seq items.toList.reverse.toArray } })
    (hsz : items.size ≤ sizeLine) : wpAny (model prog w) A (getItem (.ref t) (.ref sl)) Q E s := by
  have htake : sizeOk (.seq items.toList.reverse.toArray) := by
    show items.toList.reverse.toArray.size ≤ sizeLine
    rw [List.size_toArray, List.length_reverse, Array.length_toList]
    exact hsz
  obtain ⟨os, hos, hcs, hds⟩ := id hs
  have hTs : s.TypeIs (.ref sl) "slice" := ⟨os, hos, hcs⟩
  unfold getItem
  try with_reducible refine wpAny_holding ?_
  first | refine wpAny_bind (wpAny_pure ?_) | skip
  refine wpAny_bind (wpAny_sequenceKey ht.typeIs (by decide) ?_)
  refine wpAny_bind (wpAny_callSpecial?_slot (name := Str.ofString "__getitem__") ht.typeIs PyProof.Rows.slot_tuple_getitem
    (wpAny_call_entry PyProof.Rows.slot_tuple_getitem ht.typeIs entry_tuple_getitem ?_ (args_tuple_getitem _ _)))
  show wpAny _ _ (Builtin.Tuple.tupleItemsOf (.ref t) >>= _) _ _ s
  refine wpAny_bind (tupleItemsOf_ ht ?_)
  refine wpAny_bind (wpAny_typeOf hTs ?_)
  rw [if_pos (by decide)]
  have sa : ∀ {A : Around} {Q : Int × Int × Nat → Shared → Prop}, Q ((items.size : Int) - 1, -1, items.size) s → wpAny (model prog w) A (Builtin.Slice.sliceApplied (.ref sl) (pure (items.size : Int))) Q E s := fun {A Q} h => by
    unfold Builtin.Slice.sliceApplied Builtin.Slice.sliceFields
    refine wpAny_bind (wpAny_bind (wpAny_field hos hds (x := .none) rfl (wpAny_bind (wpAny_field hos hds (x := .none) rfl (wpAny_bind (wpAny_field hos hds (x := .int (-1) k) rfl (wpAny_pure ?_)))))))
    refine wpAny_bind (slicePart_int ?_)
    show wpAny _ _ (if ((-1 : Int) == 0) = true then _ else _) _ _ s
    rw [if_neg (by decide)]
    refine wpAny_bind (slicePart_none (wpAny_bind (slicePart_none (wpAny_bind (wpAny_pure ?_)))))
    show wpAny _ _ (match Builtin.Slice.sliceAdjust none none (-1) (items.size : Int) with | (lo, hi) => pure (lo, (-1 : Int), Builtin.Slice.slicePlaces lo hi (-1))) _ _ s
    rw [adjust_rev]
    show wpAny _ _ (pure ((items.size : Int) - 1, (-1 : Int), Builtin.Slice.slicePlaces ((items.size : Int) - 1) (-1) (-1))) _ _ s
    rw [places_rev]
    exact wpAny_pure h
  refine wpAny_bind (sa ?_)
  have hno : ¬ ((((items.size : Int) - 1) == 0 && (-1 : Int) == 1 && items.size == items.size) = true) := by
    intro q
    rw [Bool.and_eq_true, Bool.and_eq_true] at q
    exact absurd q.1.2 (by decide)
  show wpAny _ _ (if (((items.size : Int) - 1) == 0 && (-1 : Int) == 1 && items.size == items.size) = true then _ else _) _ _ s
  rw [if_neg hno, pick_rev]
  first
    | exact wpAny_bind (m := Builtin.Tuple.tupleExact _) (wpAny_newObj_type (wpAny_pure ⟨_, rfl, wpAny_pure h⟩) htake)
    | exact wpAny_bind (m := Builtin.Tuple.tupleExact _) (wpAny_newObj_type (wpAny_bind (wpAny_pure (wpAny_pure ⟨_, rfl, wpAny_pure h⟩))) htake)
    | exact wpAny_bind (wpAny_bind (m := Builtin.Tuple.tupleExact _) (wpAny_newObj_type (wpAny_pure (wpAny_pure ⟨_, rfl, wpAny_pure h⟩)) htake))
    | exact wpAny_bind (wpAny_bind (m := Builtin.Tuple.tupleExact _) (wpAny_newObj_type (wpAny_pure ⟨_, rfl, wpAny_pure h⟩) htake))
end
end HT
namespace WH
open PySem PySem.Spec PyProof.Rows L2
section
variable {X : Cx}
/-- e[::-1] of a list or a tuple -/
def tRev (K : Frag) (te : TE) : TE := fun σ H Q => te σ H fun x H1 => (∃ a xs, x = .ref a ∧ SqL K H1 a xs ∧ ∀ p, H1 p = none → Q (.ref p) (upd H1 p (.lst xs.reverse))) ∨
  ∃ a xs, x = .ref a ∧ SqT K H1 a xs ∧ ∀ p, H1 p = none → Q (.ref p) (upd H1 p (.tup xs.reverse))
theorem pe_rev {e : Expr} {te : TE} {k : Nat} {p1 p2 p3 pos : Pos} (he : PE X e te) : PE X (.Subscript e (.Slice none none (some (.UnaryOp .USub (.Constant (.int 1) k p1) p2)) p3) pos) (tRev X.K te) := by
  refine ⟨fun pins s σ H Q I h => ?_⟩
  refine Subscript_ (thn (he.run pins s σ H _ I h) fun v s1 ⟨x, H1, I1, r1, q1⟩ => ?_)
  have hst : PO X (some (.UnaryOp .USub (.Constant (.int 1) k p1) p2)) (tPart (tUn (rU fun i => .int (-i)) (tC (.int 1)))) := po_some (pe_un un_neg pe_int)
  refine wpAny_Slice (thn (po_none.run pins s1 σ H1 (fun o H2 => o = none ∧ H2 = H1) I1 ⟨rfl, rfl⟩) fun vl s2 ⟨l, H2, I2, pl, el, e2⟩ => ?_)
  subst el e2
  refine thn (po_none.run pins s2 σ H2 (fun o H3 => o = none ∧ H3 = H2) I2 ⟨rfl, rfl⟩) fun vu s3 ⟨u, H3, I3, pu, eu, e3⟩ => ?_
  subst eu e3
  refine thn (hst.run pins s3 σ H3 (fun o H4 => o = some (-1) ∧ H4 = H3) I3 ⟨1, rfl, -1, rfl, rfl, rfl⟩) fun vs s4 ⟨o, H4, I4, ps, eo, e4⟩ => ?_
  subst eo e4
  have I5 : L2.Inv X pins σ H4 { s4 with heap := s4.heap.push { cls := .type "slice", data := .fields #[vl, vu, vs] } } := I4.kept (t' := s4.toks) fun b ob q => Heap.get?_push_of_some _ q
  show wpAny (model X.prog X.w) X.A (subscriptTail e (.Slice none none (some (.UnaryOp .USub (.Constant (.int 1) k p1) p2)) p3) v (.ref s4.heap.objs.size)) (EP X pins σ Q) X.xe { s4 with heap := s4.heap.push { cls := .type "slice", data := .fields #[vl, vu, vs] } }
  rcases q1 with ⟨a, xs, ex, hx, q⟩ | ⟨a, xs, ex, hx, q⟩
  · subst ex
    cases r1
    obtain ⟨its, r, ht, hz⟩ := I5.list hx
    have hlen := r.length
    refine tail_any (ops := [.ref a, .ref s4.heap.objs.size]) ht.isList.typeIs (PySem.slot_list_getitem.lookup) ?_ (by with_unfolding_all rfl)
    refine wpAny_getItem_list_slice ht.isList (Heap.IsSliceOf.new _ vl vu vs) pl pu ps (by decide) ?_ (by rw [List.size_toArray]; omega)
    rw [PySem.W.krv_pick]
    refine ⟨.ref _, _, I5.laid (t' := s4.toks) (o := .lst xs.reverse) (fun b ob q => Heap.get?_push_of_some _ q) (Nat.le_refl _) ?_, rfl, q _ (I5.hok.fresh (Nat.le_refl _))⟩
    exact ⟨by rw [List.length_reverse]; exact hz, _, 0, r.reverse, Heap.get?_push_size _ rfl⟩
  · subst ex
    cases r1
    obtain ⟨its, r, ht, hz⟩ := I5.tuple hx
    have hlen := r.length
    cases pl
    cases pu
    cases ps
    refine tail_any (ops := [.ref a, .ref s4.heap.objs.size]) ht.typeIs PyProof.Rows.slot_tuple_getitem.lookup ?_ (by with_unfolding_all rfl)
    refine HT.getItem_tuple_rev ht (Heap.IsSliceOf.new _ _ _ _) ?_ (by rw [List.size_toArray]; omega)
    refine ⟨.ref _, _, I5.laid (t' := s4.toks) (o := .tup xs.reverse) (fun b ob q => Heap.get?_push_of_some _ q) (Nat.le_refl _) ?_, rfl, q _ (I5.hok.fresh (Nat.le_refl _))⟩
    exact ⟨by rw [List.length_reverse]; exact hz, _, r.reverse, IsTup.new _ _⟩
def revD : D → Option D
  | .list ds => some (.list ds.reverse)
  | .tuple ds => some (.tuple ds.reverse)
  | _ => none
variable {c : Dc} {e : Expr} {la lb lt : List Nat} {f : DenB}
theorem EX_rev {k : Nat} {p1 p2 p3 pos : Pos} (he : EB X c e la f) : EX X c (.Subscript e (.Slice none none (some (.UnaryOp .USub (.Constant (.int 1) k p1) p2)) p3) pos) la (.own false) (un1 revD f) :=
  ⟨pe_weak (pe_rev he.run) fun σ H Q q => by
    obtain ⟨F, ρ, n, s, n', E, hl, hf, q'⟩ := one_weak q
    refine ⟨F, ρ, n, s, n', E, hl, hf, fun v F' H' st E' r => ?_⟩
    obtain ⟨F2, d, r2, sb, hx, hh, q2⟩ := q' v F' H' st E' r
    unfold revD at hh
    split at hh
    · cases hh
      obtain ⟨a, xs, rfl, h1, h2⟩ := hx.list sb
      exact .inl ⟨a, xs, rfl, .inl h1, fin_lst sb h2.reverse q2⟩
    · cases hh
      obtain ⟨a, xs, rfl, h1, h2⟩ := hx.tuple sb
      exact .inr ⟨a, xs, rfl, h1, fin_tup sb h2.reverse q2⟩
    · cases hh⟩

/-! ## e[lo:hi] -/
def cutD {α : Type} (xs : List α) (lo hi : Option Int) : List α := (xs.drop (HT.sIx xs.length 0 lo)).take (HT.sIx xs.length xs.length hi - HT.sIx xs.length 0 lo)
def slcD (lo hi : Option Int) : D → Option D
  | .list ds => some (.list (cutD ds lo hi))
  | .tuple ds => some (.tuple (cutD ds lo hi))
  | .str z => if z.length ≤ LIM then some (.str (cutS z lo hi)) else none
  | _ => none
abbrev DenO := En → Nat → Option (Option Int × Nat)
structure EO (X : Cx) (c : Dc) (e : Option Expr) (lk : List Nat) (f : DenO) : Prop where
  run : PO X e fun σ H Q => ∃ F ρ n d n', ER X.K c.wa c.o F ρ σ H n ∧ nl lk ρ ∧ f ρ n = some (d, n') ∧ ∀ F' H', Stp (Wx c.wa) F H F' H' → ER X.K c.wa c.o F' ρ σ H' n' → Q d H'
def noO : DenO := fun _ n => some (none, n)
def someO (f : DenB) : DenO := fun ρ n => (f ρ n).bind fun p => p.1.toD.bind fun x => match x with
  | .int i => some (some i, p.2)
  | _ => none
theorem po_weak {e : Option Expr} {t t' : TO} (h : PO X e t) (w : ∀ σ H Q, t' σ H Q → t σ H Q) : PO X e t' := ⟨fun pins s σ H Q I q => h.run pins s σ H Q I (w σ H Q q)⟩
theorem EO_no : EO X c none [] noO := ⟨po_weak po_none fun σ H Q ⟨F, ρ, n, d, n', E, hl, hf, q⟩ => by
  cases hf
  exact q F H (.refl E.sb) E⟩
theorem EO_some (he : EB X c e la f) : EO X c (some e) la (someO f) := ⟨po_weak (po_some he.run) fun σ H Q ⟨F, ρ, n, d, n', E, hl, hf, q⟩ => by
  unfold someO at hf
  cases ef : f ρ n with
  | none => rw [ef] at hf; cases hf
  | some p =>
    rw [ef] at hf
    simp only [Option.bind_some] at hf
    cases e1 : p.1.toD with
    | none => rw [e1] at hf; cases hf
    | some x =>
      rw [e1] at hf
      simp only [Option.bind_some] at hf
      cases x with
      | int i =>
        cases hf
        exact ⟨F, ρ, n, p.1, p.2, E, hl, ef, fun v F' H' st E' r => ⟨i, (r.br e1).int, q F' H' st E'⟩⟩
      | _ => cases hf⟩
def slcV (f : DenB) (g t : DenO) : Den := fun ρ n => (f ρ n).bind fun p => (g ρ p.2).bind fun q => (t ρ q.2).bind fun u => p.1.toD.bind fun x => (slcD q.1 u.1 x).map (·, u.2)
theorem slcV_inv {g t : DenO} {ρ : En} {n n' : Nat} {d : D} (e : slcV f g t ρ n = some (d, n')) : ∃ s m lo m2 hi x, f ρ n = some (s, m) ∧ g ρ m = some (lo, m2) ∧ t ρ m2 = some (hi, n') ∧ s.toD = some x ∧ slcD lo hi x = some d := by
  unfold slcV at e
  cases ef : f ρ n with
  | none => rw [ef] at e; cases e
  | some p =>
    rw [ef] at e
    simp only [Option.bind_some] at e
    cases eg : g ρ p.2 with
    | none => rw [eg] at e; cases e
    | some q =>
      rw [eg] at e
      simp only [Option.bind_some] at e
      cases et : t ρ q.2 with
      | none => rw [et] at e; cases e
      | some u =>
        rw [et] at e
        simp only [Option.bind_some] at e
        cases e1 : p.1.toD with
        | none => rw [e1] at e; cases e
        | some x =>
          rw [e1] at e
          simp only [Option.bind_some] at e
          cases e2 : slcD q.1 u.1 x with
          | none => rw [e2] at e; cases e
          | some r =>
            rw [e2] at e
            cases e
            exact ⟨p.1, p.2, q.1, q.2, u.1, x, rfl, by rw [eg], by rw [et], e1, e2⟩
theorem RDs.cut {K : Frag} {F : Hp} {vs : List V} {ds : List D} (h : RDs K F vs ds) (lo hi : Option Int) : RDs K F (cutV vs lo hi) (cutD ds lo hi) := by
  unfold cutV cutD
  rw [h.length]
  exact (h.drop _).take _
theorem EX_slice {lo hi : Option Expr} {g t : DenO} {p2 pos : Pos} (he : EB X c e la f) (hl : EO X c lo lb g) (hh : EO X c hi lt t) : EX X c (.Subscript e (.Slice lo hi none p2) pos) (la ++ (lb ++ lt)) (.own false) (slcV f g t) :=
  ⟨pe_weak (pe_slice ((sl_list.or sl_tupA).or sl_str) he.run hl.run hh.run) fun σ H Q ⟨F, ρ, n, d, n', E, hl, hf, q⟩ => by
    obtain ⟨s, m, lo, m2, hi, x, e1, e2, e3, e4, e5⟩ := slcV_inv hf
    refine ⟨F, ρ, n, s, m, E, nl_l hl, e1, fun v F1 H1 st1 E1 r1 => ⟨F1, ρ, m, lo, m2, E1, nl_l (nl_r hl), e2, fun F2 H2 st2 E2 => ⟨F2, ρ, m2, hi, n', E2, nl_r (nl_r hl), e3, fun F3 H3 st3 E3 => ?_⟩⟩⟩
    have hx := ((r1.step st2).step st3).br e4
    have st := (st1.trans st2).trans st3
    have sb := E3.sb
    have q2 : ∀ v F' H', Stp N0 F3 H3 F' H' → RN X.K (.own false) F' H' H3 v d → Q v H' := fun v F' H' st' r => q v F' H' (st.trans st'.wa) (E3.step0 st') ((r.wa E3.ww).step st.kn)
    unfold slcD at e5
    split at e5
    · cases e5
      obtain ⟨a, xs, rfl, h1, h2⟩ := hx.list sb
      exact .inl (.inl ⟨a, xs, rfl, .inl h1, fin_lst sb (h2.cut lo hi) q2⟩)
    · cases e5
      obtain ⟨a, xs, rfl, h1, h2⟩ := hx.tuple sb
      refine .inl (.inr ⟨a, xs, rfl, h1, fun w => ?_, fun _ => fin_tup sb (h2.cut lo hi) q2⟩)
      rename_i ds
      have e6 : cutD ds lo hi = ds := by
        unfold cutD
        rw [← h2.length, w.1, w.2, List.drop_zero, Nat.sub_zero, h2.length, List.take_length]
      rw [e6] at q2
      cases hx with
      | rd hx => exact q2 _ F3 H3 (.refl sb) (.of hx rfl)
    · split at e5
      · rename_i hz
        cases e5
        exact .inr ⟨_, hx.str, LIM_le hz, fin_str sb q2⟩
      · cases e5
    · cases e5⟩
end
end WH

namespace WH
open PySem PySem.Spec PyProof.Rows L2

/-! ## tables -/
def toKey : D → Option Key
  | .int i => some (.inl i)
  | .str x => some (.inr x)
  | _ => none
def toKeys : List D → Option (List Key)
  | [] => some []
  | d :: r => (toKey d).bind fun k => (toKeys r).map (k :: ·)
def toKeyT : D → Option (List Key)
  | .tuple ds => toKeys ds
  | _ => none
def lookK {κ : Type} [DecidableEq κ] (g : D → Option κ) : List (D × D) → κ → Option D
  | [], _ => none
  | p :: r, k => if g p.1 = some k then some p.2 else lookK g r k
def hasK {κ : Type} [DecidableEq κ] (g : D → Option κ) : List (D × D) → κ → Bool
  | [], _ => false
  | p :: r, k => decide (g p.1 = some k) || hasK g r k
def replK {κ : Type} [DecidableEq κ] (g : D → Option κ) (k : κ) (v : D) : List (D × D) → List (D × D)
  | [] => []
  | p :: r => (if g p.1 = some k then (p.1, v) else p) :: replK g k v r
def putD {κ : Type} [DecidableEq κ] (g : D → Option κ) (ps : List (D × D)) (k : κ) (kd v : D) : List (D × D) := if hasK g ps k then replK g k v ps else ps ++ [(kd, v)]
theorem toKey_kD (k : Key) : toKey (kD k) = some k := by cases k <;> rfl
theorem toKey_inv {d : D} {k : Key} (h : toKey d = some k) : d = kD k := by
  cases d <;> first | (cases h; rfl) | cases h
theorem toKeys_kD : ∀ ks : List Key, toKeys (ks.map kD) = some ks
  | [] => rfl
  | k :: r => by
    show (toKey (kD k)).bind (fun k => (toKeys (r.map kD)).map (k :: ·)) = _
    rw [toKey_kD, toKeys_kD r] <;> rfl
theorem toKeys_inv : ∀ {ds : List D} {ks : List Key}, toKeys ds = some ks → ds = ks.map kD
  | [], _, h => by cases h; rfl
  | d :: r, ks, h => by
    unfold toKeys at h
    cases e : toKey d with
    | none => rw [e] at h; cases h
    | some k =>
      rw [e] at h
      simp only [Option.bind_some] at h
      cases e2 : toKeys r with
      | none => rw [e2] at h; cases h
      | some ms =>
        rw [e2] at h
        cases h
        rw [toKey_inv e, toKeys_inv e2] <;> rfl
theorem RD.key {K : Frag} {F : Hp} {v : V} {k : Key} (h : RD K F v (kD k)) : v = kV k := by
  cases k with
  | inl i => cases (show RD K F v (.int i) from h); rfl
  | inr x => cases (show RD K F v (.str x) from h); rfl
theorem RDs.keys {K : Frag} {F : Hp} : ∀ {vs : List V} {ks : List Key}, RDs K F vs (ks.map kD) → vs = ks.map kV
  | _, [], .nil => rfl
  | _, k :: ks, .cons q r => by rw [RD.key q, RDs.keys r] <;> rfl
/-- what is found -/
def RO (K : Frag) (F : Hp) : Option V → Option D → Prop
  | some v, some d => RD K F v d
  | none, none => True
  | _, _ => False
theorem RDk.look {K : Frag} {F : Hp} (k : Key) : ∀ {kvs : List (Key × V)} {ps : List (D × D)}, RDk K F kvs ps → RO K F (valV kvs k) (lookK toKey ps k)
  | _, _, .nil => trivial
  | _, _, .cons (k := j) (v := v) (d := d) (kvs := kvs) (ps := ps) q r => by
    unfold lookK
    rw [toKey_kD]
    by_cases e : j = k
    · subst e
      rw [if_pos rfl, valV_pos rfl]
      exact q
    · rw [if_neg (fun z => e (Option.some.inj z)), valV_neg (p := (j, v)) e]
      exact RDk.look k r
theorem RDt.look {K : Frag} {F : Hp} (k : List Key) : ∀ {kvs : List (List Key × V)} {ps : List (D × D)}, RDt K F kvs ps → RO K F (valV kvs k) (lookK toKeyT ps k)
  | _, _, .nil => trivial
  | _, _, .cons (k := j) (v := v) (d := d) (kvs := kvs) (ps := ps) q r => by
    unfold lookK
    show RO K F _ (if toKeys (j.map kD) = some k then _ else _)
    rw [toKeys_kD]
    by_cases e : j = k
    · subst e
      rw [if_pos rfl, valV_pos rfl]
      exact q
    · rw [if_neg (fun z => e (Option.some.inj z)), valV_neg (p := (j, v)) e]
      exact RDt.look k r
theorem RDk.has {K : Frag} {F : Hp} (k : Key) : ∀ {kvs : List (Key × V)} {ps : List (D × D)}, RDk K F kvs ps → (kvs.any fun kv => decide (kv.1 = k)) = hasK toKey ps k
  | _, _, .nil => rfl
  | _, _, .cons (k := j) (v := v) (d := d) (kvs := kvs) (ps := ps) q r => by
    unfold hasK
    rw [List.any_cons, toKey_kD, RDk.has k r]
    congr 1
    exact decide_eq_decide.mpr ⟨fun e => congrArg some e, fun e => Option.some.inj e⟩
theorem RDt.has {K : Frag} {F : Hp} (k : List Key) : ∀ {kvs : List (List Key × V)} {ps : List (D × D)}, RDt K F kvs ps → (kvs.any fun kv => decide (kv.1 = k)) = hasK toKeyT ps k
  | _, _, .nil => rfl
  | _, _, .cons (k := j) (v := v) (d := d) (kvs := kvs) (ps := ps) q r => by
    unfold hasK
    rw [List.any_cons, RDt.has k r]
    congr 1
    show _ = decide (toKeys (j.map kD) = some k)
    rw [toKeys_kD]
    exact decide_eq_decide.mpr ⟨fun e => congrArg some e, fun e => Option.some.inj e⟩
theorem RDk.repl {K : Frag} {F : Hp} {k : Key} {v : V} {d : D} (h : RD K F v d) : ∀ {kvs : List (Key × V)} {ps : List (D × D)}, RDk K F kvs ps → RDk K F (kvs.map fun kv => if kv.1 = k then (kv.1, v) else kv) (replK toKey k d ps)
  | _, _, .nil => .nil
  | _, _, .cons (k := j) q r => by
    unfold replK
    rw [List.map_cons, toKey_kD]
    by_cases e : j = k
    · subst e
      rw [if_pos rfl, if_pos rfl]
      exact .cons h (RDk.repl h r)
    · rw [if_neg e, if_neg (fun z => e (Option.some.inj z))]
      exact .cons q (RDk.repl h r)
theorem RDt.repl {K : Frag} {F : Hp} {k : List Key} {v : V} {d : D} (h : RD K F v d) : ∀ {kvs : List (List Key × V)} {ps : List (D × D)}, RDt K F kvs ps → RDt K F (kvs.map fun kv => if kv.1 = k then (kv.1, v) else kv) (replK toKeyT k d ps)
  | _, _, .nil => .nil
  | _, _, .cons (k := j) q r => by
    unfold replK
    rw [List.map_cons]
    have e0 : toKeyT (.tuple (j.map kD)) = some j := toKeys_kD j
    rw [e0]
    by_cases e : j = k
    · subst e
      rw [if_pos rfl, if_pos rfl]
      exact .cons h (RDt.repl h r)
    · rw [if_neg e, if_neg (fun z => e (Option.some.inj z))]
      exact .cons q (RDt.repl h r)
theorem RDk.append {K : Frag} {F : Hp} : ∀ {a b : List (Key × V)} {c d : List (D × D)}, RDk K F a c → RDk K F b d → RDk K F (a ++ b) (c ++ d)
  | _, _, _, _, .nil, h => h
  | _, _, _, _, .cons q r, h => .cons q (RDk.append r h)
theorem RDt.append {K : Frag} {F : Hp} : ∀ {a b : List (List Key × V)} {c d : List (D × D)}, RDt K F a c → RDt K F b d → RDt K F (a ++ b) (c ++ d)
  | _, _, _, _, .nil, h => h
  | _, _, _, _, .cons q r, h => .cons q (RDt.append r h)
theorem RDk.put {K : Frag} {F : Hp} {k : Key} {v : V} {d : D} (h : RD K F v d) {kvs : List (Key × V)} {ps : List (D × D)} (r : RDk K F kvs ps) : RDk K F (putK kvs k v) (putD toKey ps k (kD k) d) := by
  unfold putK putD
  rw [r.has k]
  cases hasK toKey ps k with
  | true => exact r.repl h
  | false => exact r.append (.cons h .nil)
theorem RDt.put {K : Frag} {F : Hp} {k : List Key} {v : V} {d : D} (h : RD K F v d) {kvs : List (List Key × V)} {ps : List (D × D)} (r : RDt K F kvs ps) : RDt K F (putK kvs k v) (putD toKeyT ps k (.tuple (k.map kD)) d) := by
  unfold putK putD
  rw [r.has k]
  cases hasK toKeyT ps k with
  | true => exact r.repl h
  | false => exact r.append (.cons h .nil)
/-- a dict's look-up: is it a key of this dict's kind, and what is there -/
def dget (tk : Bool) (ps : List (D × D)) (k : D) : Option (Option D) := match tk with
  | false => (toKey k).map fun k => lookK toKey ps k
  | true => (toKeyT k).map fun k => lookK toKeyT ps k
def dput (tk : Bool) (ps : List (D × D)) (k v : D) : Option (List (D × D)) := if ps.length < LIM then (match tk with
  | false => (toKey k).map fun j => putD toKey ps j k v
  | true => (toKeyT k).map fun j => putD toKeyT ps j k v) else none
theorem dget_spec {K : Frag} {F H : Hp} {tk : Bool} {o : HO} {ps : List (D × D)} {a : Addr} {y : V} {k : D} {r : Option D} (sb : Sb F H) (ho : Rx H a o) (hd : DO K F tk o ps) (hk : RD K F y k) (e : dget tk ps k = some r) : ∃ r', DGet H a y r' ∧ RO K F r' r := by
  unfold dget at e
  cases tk with
  | false =>
    obtain ⟨kvs, rfl, rel⟩ := hd
    cases e1 : toKey k with
    | none => rw [e1] at e; cases e
    | some j =>
      rw [e1] at e
      cases e
      rw [toKey_inv e1] at hk
      exact ⟨_, .inl ⟨kvs, j, ho.rd, hk.key, rfl⟩, rel.look j⟩
  | true =>
    obtain ⟨kvs, rfl, rel⟩ := hd
    cases e1 : toKeyT k with
    | none => simp only [e1] at e; cases e
    | some j =>
      simp only [e1] at e
      cases e
      cases k with
      | tuple ds =>
        rw [toKeys_inv e1] at hk
        cases hk with
        | tup q r =>
          rw [r.keys] at q
          exact ⟨_, .inr ⟨kvs, j, _, ho.rd, rfl, (sb _ _ (.inl q)).tup, rfl⟩, rel.look j⟩
      | _ => cases e1
theorem dput_spec {K : Frag} {F H : Hp} {tk : Bool} {o : HO} {ps ps' : List (D × D)} {a : Addr} {y v : V} {k d : D} (sb : Sb F H) (ho : H a = some o) (hd : DO K F tk o ps) (hk : RD K F y k) (hv : RD K F v d) (e : dput tk ps k d = some ps') :
    ∃ o', DPut H a y v (upd H a o') ∧ DO K F tk o' ps' := by
  unfold dput at e
  split at e
  · rename_i hz
    have hz' : ps.length < sizeLine := by rw [sizeLine_eq]; unfold LIM at hz; omega
    cases tk with
    | false =>
      obtain ⟨kvs, rfl, rel⟩ := hd
      cases e1 : toKey k with
      | none => simp only [e1] at e; cases e
      | some j =>
        simp only [e1] at e
        cases e
        rw [toKey_inv e1] at hk ⊢
        exact ⟨_, .inl ⟨kvs, j, ho, hk.key, by rw [rel.length]; exact hz', rfl⟩, _, rfl, rel.put hv⟩
    | true =>
      obtain ⟨kvs, rfl, rel⟩ := hd
      cases e1 : toKeyT k with
      | none => simp only [e1] at e; cases e
      | some j =>
        simp only [e1] at e
        cases e
        cases k with
        | tuple ds =>
          rw [toKeys_inv e1] at hk ⊢
          cases hk with
          | tup q r =>
            rw [r.keys] at q
            exact ⟨_, .inr ⟨kvs, j, _, ho, rfl, (sb _ _ (.inl q)).tup, by rw [rel.length]; exact hz', rfl⟩, _, rfl, rel.put hv⟩
        | _ => cases e1
  · cases e
/-- a slot seen as a dict: keyed by tuples? its pairs -/
def dview : Sl → Option (Bool × List (D × D))
  | .od tk ps => some (tk, ps)
  | .fr (.dict ((.tuple k, v) :: r)) => some (true, (.tuple k, v) :: r)
  | .fr (.dict (p :: r)) => some (false, p :: r)
  | _ => none
theorem dview_spec {K : Frag} {wa : Option Addr} {F H : Hp} {s : Sl} {x : V} {tk : Bool} {ps : List (D × D)} (sb : Sb F H) (h : SR K wa F H s x) (e : dview s = some (tk, ps)) : ∃ a o, x = .ref a ∧ Rx H a o ∧ DO K F tk o ps := by
  cases s with
  | od tk' ps' =>
    cases e
    obtain ⟨a, o, rfl, _, _, q, r⟩ := h
    exact ⟨a, o, rfl, q, r⟩
  | ol ds => cases e
  | ww => cases e
  | ks _ => cases e
  | fr d =>
    cases d with
    | dict qs =>
      have h' : RD K F x (.dict qs) := h
      cases qs with
      | nil => cases e
      | cons p r =>
        obtain ⟨k, v⟩ := p
        cases h' with
        | dk q rel =>
          cases rel with
          | cons q1 q2 =>
            rename_i j w kvs
            cases j with
            | inl i => cases e; exact ⟨_, _, rfl, sb _ _ q, _, rfl, .cons q1 q2⟩
            | inr i => cases e; exact ⟨_, _, rfl, sb _ _ q, _, rfl, .cons q1 q2⟩
        | dt q rel =>
          cases rel with
          | cons q1 q2 => cases e; exact ⟨_, _, rfl, sb _ _ q, _, rfl, .cons q1 q2⟩
    | _ => cases e

/-! ## a[i] -/
theorem RDs.atI {K : Frag} {F : Hp} {vs : List V} {ds : List D} (h : RDs K F vs ds) {i : Int} {d : D} (e : atI ds i = some d) : ∃ v, atI vs i = some v ∧ RD K F v d := by
  unfold L2.atI at e ⊢
  rw [h.length]
  cases ej : ixN ds.length i with
  | none => rw [ej] at e; cases e
  | some j =>
    rw [ej] at e
    obtain ⟨v, hv, r⟩ := h.get e
    exact ⟨v, hv, r⟩
def ixD (s : Sl) (k : D) : Option D := match s, k with
  | .ol ds, .int i => atI ds i
  | .fr (.list ds), .int i => atI ds i
  | .fr (.tuple ds), .int i => atI ds i
  | .fr (.str z), .int i => if z.length ≤ LIM then (atI z.cps.toList i).map fun c => .str ⟨#[c]⟩ else none
  | s, k => (dview s).bind fun p => (dget p.1 p.2 k).bind id
def bin2S (h : Sl → D → Option D) (f g : DenB) : Den := fun ρ n => (f ρ n).bind fun p => (g ρ p.2).bind fun q => match q.1 with
  | .fr y => (h p.1 y).map (·, q.2)
  | _ => none
theorem bin2S_inv {h : Sl → D → Option D} {f g : DenB} {ρ : En} {n n' : Nat} {d : D} (e : bin2S h f g ρ n = some (d, n')) : ∃ s m y, f ρ n = some (s, m) ∧ g ρ m = some (.fr y, n') ∧ h s y = some d := by
  unfold bin2S at e
  cases ef : f ρ n with
  | none => rw [ef] at e; cases e
  | some p =>
    rw [ef] at e
    simp only [Option.bind_some] at e
    cases eg : g ρ p.2 with
    | none => rw [eg] at e; cases e
    | some q =>
      rw [eg] at e
      simp only [Option.bind_some] at e
      obtain ⟨s, m⟩ := q
      cases s with
      | fr y =>
        simp only at e
        cases e3 : h p.1 y with
        | none => rw [e3] at e; cases e
        | some r =>
          rw [e3] at e
          cases e
          exact ⟨p.1, p.2, y, rfl, eg, e3⟩
      | _ => cases e
def rSD (K : Frag) (h : Sl → D → Option D) (fr : Fr) : R2 := fun x y H Q => ∃ wa F s d r, Sb F H ∧ SR K wa F H s x ∧ RD K F y d ∧ h s d = some r ∧ ∀ v F' H', Stp N0 F H F' H' → RN K fr F' H' H v r → Q v H'
section
variable {X : Cx} {c : Dc} {a b : Expr} {la lb : List Nat} {fa fb : DenB} {h : Sl → D → Option D} {fr : Fr} {pos : Pos}
theorem twoS_weak {σ : L2.St} {H : Hp} {Q : VK} (q : tI X.K c.wa c.o (la ++ lb) fr (bin2S h fa fb) σ H Q) : tOp (rSD X.K h fr) (tB X.K c.wa c.o la fa) (tB X.K c.wa c.o lb fb) σ H Q := by
  obtain ⟨F, ρ, n, d, n', E, hl, hf, q⟩ := q
  obtain ⟨s, m, y, e1, e2, e5⟩ := bin2S_inv hf
  refine ⟨F, ρ, n, s, m, E, nl_l hl, e1, fun v F1 H1 st1 E1 r1 => ⟨F1, ρ, m, _, n', E1, nl_r hl, e2, fun w F2 H2 st2 E2 r2 => ?_⟩⟩
  refine ⟨c.wa, F2, s, y, d, E2.sb, r1.step st2, r2, e5, fun u F3 H3 st3 r3 => ?_⟩
  exact q u F3 H3 ((st1.trans st2).trans st3.wa) (E2.step0 st3) ((r3.wa E2.ww).step (st1.trans st2).kn)
theorem EX_ixS (ho : IxR X (rSD X.K h fr)) (ha : EB X c a la fa) (hb : EB X c b lb fb) (hs : PlainIx b) : EX X c (.Subscript a b pos) (la ++ lb) fr (bin2S h fa fb) :=
  ⟨pe_weak (pe_ix ho ha.run hb.run hs) fun σ H Q q => twoS_weak q⟩
theorem ix_dict (hu : X.A.units + 1 < cLine) : IxR X (fun x y H Q => ∃ a v, x = .ref a ∧ DGet H a y (some v) ∧ Q v H) := by
  intro value slice pins s σ H x y v u Q I rx ry h hs
  obtain ⟨a, w, rfl, g, q⟩ := h
  cases rx
  exact tail_any (dict_typeIs I g) PySem.F.slot_dict_getitem.lookup (d_getItem hu I g ry fun w' s3 I3 rw' => ⟨w, H, I3, rw', q⟩) hs
theorem o_ix (hu : X.A.units + 1 < cLine) : IxR X (rSD X.K ixD .no) := by
  intro value slice pins s σ H x y v u Q I rx ry h hs
  refine (((ix_list (X := X)).or ix_tup).or (ix_str.or (ix_dict hu))) value slice pins s σ H x y v u Q I rx ry ?_ hs
  obtain ⟨wa, F, sl, d, r, sb, hx, hy, hh, q⟩ := h
  have lst : ∀ {ds : List D} {i : Int}, BR X.K F H x (.list ds) → atI ds i = some r → y = .int i → rIxL X.K x y H Q := fun {ds i} hb e ey => by
    obtain ⟨a, xs, rfl, q1, r1⟩ := hb.list sb
    obtain ⟨w, e1, r2⟩ := r1.atI e
    exact ⟨a, xs, i, w, rfl, ey, .inl q1, e1, q w F H (.refl sb) (.no r2)⟩
  unfold ixD at hh
  split at hh
  · cases hy
    exact .inl (.inl (lst (hx.br rfl) hh rfl))
  · cases hy
    exact .inl (.inl (lst (hx.br rfl) hh rfl))
  · cases hy
    obtain ⟨a, xs, rfl, q1, r1⟩ := (hx.br rfl).tuple sb
    obtain ⟨w, e1, r2⟩ := r1.atI hh
    exact .inl (.inr ⟨a, xs, _, w, rfl, rfl, q1, e1, q w F H (.refl sb) (.no r2)⟩)
  · cases hy
    split at hh
    · rename_i z i hz
      cases e : atI z.cps.toList i with
      | none => rw [e] at hh; cases hh
      | some ch =>
        rw [e] at hh
        cases hh
        exact .inr (.inl ⟨z, i, ch, (hx.br rfl).str, rfl, LIM_le hz, e, fin_str sb q⟩)
    · cases hh
  · cases e1 : dview sl with
    | none => rw [e1] at hh; cases hh
    | some p =>
      obtain ⟨tk, ps⟩ := p
      rw [e1] at hh
      simp only [Option.bind_some] at hh
      cases e2 : dget tk ps d with
      | none => rw [e2] at hh; cases hh
      | some w =>
        rw [e2] at hh
        simp only [Option.bind_some, id] at hh
        subst hh
        obtain ⟨a, o, rfl, q1, q2⟩ := dview_spec sb hx e1
        obtain ⟨r', g, ro⟩ := dget_spec sb q1 q2 hy e2
        cases r' with
        | none => exact ro.elim
        | some w' => exact .inr (.inr ⟨a, w', rfl, g, q w' F H (.refl sb) (.no ro)⟩)
/-- k in d, k not in d -/
def inDict (neg : Bool) : Sl → D → Option D := fun s k => (dview s).bind fun p => (dget p.1 p.2 k).map fun r => .bool (Bool.xor neg r.isSome)
def inSD (neg : Bool) : D → Sl → Option D := fun k s => match dview s with
  | some _ => inDict neg s k
  | none => s.toD.bind fun d => inD neg k d
def bin2R (h : D → Sl → Option D) (f g : DenB) : Den := fun ρ n => (f ρ n).bind fun p => (g ρ p.2).bind fun q => match p.1 with
  | .fr y => (h y q.1).map (·, q.2)
  | _ => none
theorem bin2R_inv {h : D → Sl → Option D} {f g : DenB} {ρ : En} {n n' : Nat} {d : D} (e : bin2R h f g ρ n = some (d, n')) : ∃ y m t, f ρ n = some (.fr y, m) ∧ g ρ m = some (t, n') ∧ h y t = some d := by
  unfold bin2R at e
  cases ef : f ρ n with
  | none => rw [ef] at e; cases e
  | some p =>
    rw [ef] at e
    simp only [Option.bind_some] at e
    cases eg : g ρ p.2 with
    | none => rw [eg] at e; cases e
    | some q =>
      rw [eg] at e
      simp only [Option.bind_some] at e
      obtain ⟨s, m⟩ := p
      cases s with
      | fr y =>
        simp only at e
        cases e3 : h y q.1 with
        | none => rw [e3] at e; cases e
        | some r =>
          rw [e3] at e
          cases e
          exact ⟨y, m, q.1, rfl, eg, e3⟩
      | _ => cases e
def rDS (K : Frag) (h : D → Sl → Option D) (fr : Fr) : R2 := fun x y H Q => ∃ wa F d s r, Sb F H ∧ RD K F x d ∧ SR K wa F H s y ∧ h d s = some r ∧ ∀ v F' H', Stp N0 F H F' H' → RN K fr F' H' H v r → Q v H'
theorem twoR_weak {h : D → Sl → Option D} {σ : L2.St} {H : Hp} {Q : VK} (q : tI X.K c.wa c.o (la ++ lb) fr (bin2R h fa fb) σ H Q) : tOp (rDS X.K h fr) (tB X.K c.wa c.o la fa) (tB X.K c.wa c.o lb fb) σ H Q := by
  obtain ⟨F, ρ, n, d, n', E, hl, hf, q⟩ := q
  obtain ⟨y, m, t, e1, e2, e5⟩ := bin2R_inv hf
  refine ⟨F, ρ, n, _, m, E, nl_l hl, e1, fun v F1 H1 st1 E1 r1 => ⟨F1, ρ, m, t, n', E1, nl_r hl, e2, fun w F2 H2 st2 E2 r2 => ?_⟩⟩
  refine ⟨c.wa, F2, y, t, d, E2.sb, r1.step st2, r2, e5, fun u F3 H3 st3 r3 => ?_⟩
  exact q u F3 H3 ((st1.trans st2).trans st3.wa) (E2.step0 st3) ((r3.wa E2.ww).step (st1.trans st2).kn)
theorem EX_cmpR {op : CmpOp} {h : D → Sl → Option D} (ho : OpR X (compareOp op) (rDS X.K h fr)) (ha : EB X c a la fa) (hb : EB X c b lb fb) (hm : behindInMarks op b = false) : EX X c (.Compare a [op] [b] pos) (la ++ lb) fr (bin2R h fa fb) :=
  ⟨pe_weak (pe_cmpR ho ha.run hb.run hm) fun σ H Q q => twoR_weak q⟩
theorem ET_cmpR {op : CmpOp} {h : D → Sl → Option D} (ho : OpR X (compareOp op) (rDS X.K h fr)) (ha : EB X c a la fa) (hb : EB X c b lb fb) (hm : behindInMarks op b = false) : ET X c (.Compare a [op] [b] pos) (la ++ lb) (bin2R h fa fb) :=
  ⟨pt_weak (pt_cmpR ho ha.run hb.run hm) fun σ H Q q => twoR_weak (tI_tT (fr := fr) q)⟩
theorem o_inS (hu : X.A.units + 64 < cLine) : OpR X (compareOp .In) (rDS X.K (inSD false) .no) := fun pins s σ H x y v u Q I rx ry ⟨wa, F, d, sl, r, sb, hx, hy, hh, q⟩ => by
  unfold inSD at hh
  split at hh
  · rename_i p e1
    obtain ⟨tk, ps⟩ := p
    unfold inDict at hh
    rw [e1] at hh
    simp only [Option.bind_some] at hh
    cases e2 : dget tk ps d with
    | none => rw [e2] at hh; cases hh
    | some w =>
      rw [e2] at hh
      cases hh
      obtain ⟨a, o, rfl, q1, q2⟩ := dview_spec sb hy e1
      obtain ⟨r', g, ro⟩ := dget_spec sb q1 q2 hx e2
      cases ry
      refine d_in (by omega) I g rx fun s' I' => ⟨.bl r'.isSome, H, I', rfl, ?_⟩
      have e3 : r'.isSome = w.isSome := by
        cases r' <;> cases w <;> first | rfl | exact ro.elim
      rw [e3]
      have := fin_bool sb q
      rwa [Bool.false_xor] at this
  · cases e1 : sl.toD with
    | none => rw [e1] at hh; cases hh
    | some e =>
      rw [e1] at hh
      exact o_in hu pins s σ H x y v u Q I rx ry ⟨F, d, e, r, sb, .rd hx, hy.br e1, hh, q⟩
theorem o_notinS (hu : X.A.units + 64 < cLine) : OpR X (compareOp .NotIn) (rDS X.K (inSD true) .no) := fun pins s σ H x y v u Q I rx ry ⟨wa, F, d, sl, r, sb, hx, hy, hh, q⟩ => by
  unfold inSD at hh
  split at hh
  · rename_i p e1
    obtain ⟨tk, ps⟩ := p
    unfold inDict at hh
    rw [e1] at hh
    simp only [Option.bind_some] at hh
    cases e2 : dget tk ps d with
    | none => rw [e2] at hh; cases hh
    | some w =>
      rw [e2] at hh
      cases hh
      obtain ⟨a, o, rfl, q1, q2⟩ := dview_spec sb hy e1
      obtain ⟨r', g, ro⟩ := dget_spec sb q1 q2 hx e2
      cases ry
      refine d_notIn (by omega) I g rx fun s' I' => ⟨.bl (!r'.isSome), H, I', rfl, ?_⟩
      have e3 : r'.isSome = w.isSome := by
        cases r' <;> cases w <;> first | rfl | exact ro.elim
      rw [e3]
      have := fin_bool sb q
      rwa [Bool.true_xor] at this
  · cases e1 : sl.toD with
    | none => rw [e1] at hh; cases hh
    | some e =>
      rw [e1] at hh
      exact o_notin hu pins s σ H x y v u Q I rx ry ⟨F, d, e, r, sb, .rd hx, hy.br e1, hh, q⟩
end
end WH

namespace WH
open PySem PySem.Spec PyProof.Rows L2

/-! ## the text's own defs, by their function on data -/
def spF (K : Frag) (f : List D → Option D) (np : Nat) : Sp := fun vs H Q _ => vs.length = np ∧ ∃ F ds d, Sb F H ∧ RDs K F vs ds ∧ f ds = some d ∧ ∀ v F' H', Stp N0 F H F' H' → RD K F' v d → Q v H'
def callV (f : List D → Option D) (g : DenA) : Den := fun ρ n => (g ρ n).bind fun p => (f p.1).map (·, p.2)
theorem callV_inv {f : List D → Option D} {g : DenA} {ρ : En} {n n' : Nat} {d : D} (e : callV f g ρ n = some (d, n')) : ∃ ds, g ρ n = some (ds, n') ∧ f ds = some d := by
  unfold callV at e
  cases eg : g ρ n with
  | none => rw [eg] at e; cases e
  | some p =>
    rw [eg] at e
    simp only [Option.bind_some] at e
    cases e1 : f p.1 with
    | none => rw [e1] at e; cases e
    | some d =>
      rw [e1] at e
      cases e
      exact ⟨p.1, by rw [← eg], e1⟩
section
variable {X : Cx} {c : Dc} {e : Expr} {es : List Expr} {la : List Nat} {g : DenA} {f : List D → Option D}
theorem EX_call {k : Nat} {fa : Addr} {fd : FuncData} {ps : List Str} {x : Str} {p pos : Pos} (F : FnOk X.prog X.w X.K X.mg X.base CX0 k fa fd ps (spF X.K f ps.length)) (hr : Room k X.A) (hg : Gl X x) (hm : X.mg x = some (.ref fa))
    (hk : PySem.W.keepIn X.K (.ref fa) = true) (hb : Binds X.K fd ps []) (hl : (e :: es).length = ps.length) (ha : EA X c (e :: es) la g) (hdb : (x == ("__debug__" : Str)) = false)
    (he : starEach (e :: es) X.env = (false, eval e X.env) :: starEach es X.env) (hpl : (backTo pos (starEach es X.env)).any (·.1) = false) (hlen : ∀ ρ n r, g ρ n = some r → r.1.length = (e :: es).length) :
    EX X c (.Call (.Name x p) (e :: es) [] pos) la .no (callV f g) :=
  ⟨pe_weak (pe_call F hr hg hm hk hb .nil pass0 ha.run hdb he hpl) fun σ H Q ⟨F, ρ, n, d, n', E, hl', hf, q⟩ => by
    obtain ⟨ds, e1, e2⟩ := callV_inv hf
    refine ⟨F, ρ, n, ds, n', E, hl', e1, fun vs F1 H1 st1 E1 r1 => ⟨?_, F1, ds, d, E1.sb, ?_, e2, fun v F2 H2 st2 r2 => ?_⟩⟩
    · rw [List.append_nil, r1.length, hlen ρ n _ e1, hl]
    · rw [List.append_nil]; exact r1
    · exact q v F2 H2 (st1.trans st2.wa) (E1.step0 st2) ⟨r2, fun z => nomatch z⟩⟩
theorem consA_len {f : Den} {g : DenA} {k : Nat} (h : ∀ ρ n r, g ρ n = some r → r.1.length = k) : ∀ ρ n r, consA f g ρ n = some r → r.1.length = k + 1 := fun ρ n r e => by
  unfold consA at e
  cases ef : f ρ n with
  | none => rw [ef] at e; cases e
  | some p =>
    rw [ef] at e
    simp only [Option.bind_some] at e
    cases eg : g ρ p.2 with
    | none => rw [eg] at e; cases e
    | some q =>
      rw [eg] at e
      cases e
      rw [List.length_cons, h ρ _ q eg]
theorem nilA_len : ∀ ρ n r, nilA ρ n = some r → r.1.length = 0 := fun ρ n r e => by cases e; rfl
end

/-! ## what is walked -/
structure IterOk (K : Frag) (J : It) (ds : List D) (P : Hp → Hp → Prop) : Prop where
  item : ∀ i F H, Sb F H → P F H → i < ds.length → J.go i H ∧ ∀ x H', J.yld i H x H' → ∃ F', Stp N0 F H F' H' ∧ RD K F' x (ds.getD i .none)
  done : ∀ i F H, Sb F H → P F H → ds.length ≤ i → J.stop i H
/-- what a walk leans on: what is frozen, and the objects at A as they stand -/
def Pk (F1 Hk : Hp) (A : Addr → Prop) (F H : Hp) : Prop := (∀ a u, F1 a = some u → F a = some u) ∧ ∀ a, A a → H a = Hk a
theorem RDs.getD {K : Frag} {F : Hp} {vs : List V} {ds : List D} (h : RDs K F vs ds) {i : Nat} (hi : i < ds.length) : ∃ v, vs[i]? = some v ∧ RD K F v (ds.getD i .none) := by
  have e : ds[i]? = some (ds.getD i .none) := by
    rw [List.getD_eq_getElem?_getD, List.getElem?_eq_getElem hi] <;> rfl
  exact h.get e
theorem it_list {K : Frag} {a : Addr} {ds : List D} {P : Hp → Hp → Prop} (h : ∀ F H, Sb F H → P F H → ∃ xs, SqL K H a xs ∧ RDs K F xs ds) : IterOk K (Itl K a) ds P where
  item := fun i F H sb hp hi => by
    obtain ⟨xs, q, r⟩ := h F H sb hp
    obtain ⟨v, hv, rv⟩ := r.getD hi
    refine ⟨⟨xs, v, q, hv⟩, fun x H' y => ?_⟩
    obtain ⟨rfl, y⟩ := y
    have := y xs q
    rw [hv] at this
    cases this
    exact ⟨F, .refl sb, rv⟩
  done := fun i F H sb hp hi => by
    obtain ⟨xs, q, r⟩ := h F H sb hp
    exact ⟨xs, q, by rw [r.length]; exact hi⟩
theorem it_tup {K : Frag} {a : Addr} {ds : List D} {P : Hp → Hp → Prop} (h : ∀ F H, Sb F H → P F H → ∃ xs, SqT K H a xs ∧ RDs K F xs ds) : IterOk K (Itt K a) ds P where
  item := fun i F H sb hp hi => by
    obtain ⟨xs, q, r⟩ := h F H sb hp
    obtain ⟨v, hv, rv⟩ := r.getD hi
    refine ⟨⟨xs, v, q, hv⟩, fun x H' y => ?_⟩
    obtain ⟨rfl, y⟩ := y
    have := y xs q
    rw [hv] at this
    cases this
    exact ⟨F, .refl sb, rv⟩
  done := fun i F H sb hp hi => by
    obtain ⟨xs, q, r⟩ := h F H sb hp
    exact ⟨xs, q, by rw [r.length]; exact hi⟩
def rangeD (lo : Int) (n : Nat) : List D := (List.range n).map fun (k : Nat) => .int (lo + (k : Int))
theorem rangeD_length (lo : Int) (n : Nat) : (rangeD lo n).length = n := by unfold rangeD; rw [List.length_map, List.length_range]
theorem rangeD_getD {lo : Int} {n i : Nat} (h : i < n) : (rangeD lo n).getD i .none = .int (lo + (i : Int)) := by
  unfold rangeD
  rw [List.getD_eq_getElem?_getD, List.getElem?_map, List.getElem?_range h] <;> rfl
theorem it_range {K : Frag} {lo : Int} {n : Nat} {P : Hp → Hp → Prop} : IterOk K (Itr lo n) (rangeD lo n) P where
  item := fun i F H sb hp hi => by
    rw [rangeD_length] at hi
    refine ⟨hi, fun x H' y => ?_⟩
    obtain ⟨rfl, rfl⟩ := y
    rw [rangeD_getD hi]
    exact ⟨F, .refl sb, .int _⟩
  done := fun i F H sb hp hi => by rw [rangeD_length] at hi; exact hi
theorem RDk.nth {K : Frag} {F : Hp} : ∀ {kvs : List (Key × V)} {ps : List (D × D)} {i : Nat}, RDk K F kvs ps → i < ps.length → ∃ k v, kvs[i]? = some (k, v) ∧ (ps.map (·.1)).getD i .none = kD k
  | _, _, _, .nil, h => by simp at h
  | _, _, 0, .cons q r, h => ⟨_, _, rfl, rfl⟩
  | _, _, i + 1, .cons q r, h => RDk.nth (i := i) r (by simpa using h)
theorem RDt.nth {K : Frag} {F : Hp} : ∀ {kvs : List (List Key × V)} {ps : List (D × D)} {i : Nat}, RDt K F kvs ps → i < ps.length → ∃ k v, kvs[i]? = some (k, v) ∧ (ps.map (·.1)).getD i .none = .tuple (k.map kD)
  | _, _, _, .nil, h => by simp at h
  | _, _, 0, .cons q r, h => ⟨_, _, rfl, rfl⟩
  | _, _, i + 1, .cons q r, h => RDt.nth (i := i) r (by simpa using h)
theorem RD.ofKey {K : Frag} {F : Hp} (k : Key) : RD K F (kV k) (kD k) := by
  cases k with
  | inl i => exact .int i
  | inr x => exact .str x
theorem RDs.ofKeys {K : Frag} {F : Hp} : ∀ ks : List Key, RDs K F (ks.map kV) (ks.map kD)
  | [] => .nil
  | k :: r => .cons (.ofKey k) (RDs.ofKeys r)
theorem it_keys {K : Frag} {d : Addr} {o : Obj} {kvs : List (Key × V)} {ps : List (D × D)} {P : Hp → Hp → Prop} {F0 : Hp} (h : ∀ F H, P F H → H d = some (.frz o (.dK kvs))) (r : RDk K F0 kvs ps) : IterOk K (Itk d o kvs) (ps.map (·.1)) P where
  item := fun i F H sb hp hi => by
    rw [List.length_map] at hi
    refine ⟨⟨h F H hp, by rw [r.length]; exact hi⟩, fun x H' y => ?_⟩
    obtain ⟨rfl, k, v, e, rfl⟩ := y
    obtain ⟨k', v', e', e2⟩ := r.nth hi
    rw [e] at e'
    cases e'
    rw [e2]
    exact ⟨F, .refl sb, .ofKey k⟩
  done := fun i F H sb hp hi => by
    rw [List.length_map] at hi
    exact ⟨h F H hp, by rw [r.length]; exact hi⟩
theorem it_keysT {K : Frag} {d : Addr} {o : Obj} {kvs : List (List Key × V)} {ps : List (D × D)} {P : Hp → Hp → Prop} {F0 : Hp} (h : ∀ F H, P F H → H d = some (.frz o (.dT kvs))) (r : RDt K F0 kvs ps) : IterOk K (Itkt d o kvs) (ps.map (·.1)) P where
  item := fun i F H sb hp hi => by
    rw [List.length_map] at hi
    refine ⟨⟨h F H hp, by rw [r.length]; exact hi⟩, fun x H' y => ?_⟩
    obtain ⟨rfl, k, v, q, e, rfl, eq⟩ := y
    obtain ⟨k', v', e', e2⟩ := r.nth hi
    rw [e] at e'
    cases e'
    rw [e2]
    -- the key's own tuple, frozen now
    cases eF : F q with
    | none =>
      have st : Stp N0 F H' (upd F q (.tup (k.map kV))) H' := ⟨fun _ _ _ z => z, fun _ z => z, fun a u z => by rw [upd_ne (ne_of_none z eF)]; exact z, fun a z => ?_, fun _ _ z => .inr z, fun a u z => ?_⟩
      · exact ⟨_, st, .tup upd_same (.ofKeys k)⟩
      · by_cases y : a = q
        · exact .inr (.inr ⟨_, by rw [y]; exact eq⟩)
        · rw [upd_ne y] at z; exact .inl z
      · by_cases y : a = q
        · subst y
          rcases z with z | ⟨ob, z, nt⟩ <;> rw [upd_same] at z
          · cases z; exact .inl eq
          · cases z
        · refine sb a u ?_
          rcases z with z | ⟨ob, z, nt⟩ <;> rw [upd_ne y] at z
          · exact .inl z
          · exact .inr ⟨ob, z, nt⟩
    | some u =>
      have e3 := sb q u (.inl eF)
      rcases e3 with e3 | ⟨ob, e3, _⟩
      · rw [eq] at e3
        cases e3
        exact ⟨F, .refl sb, .tup eF (.ofKeys k)⟩
      · rw [eq] at e3; cases e3
  done := fun i F H sb hp hi => by
    rw [List.length_map] at hi
    exact ⟨h F H hp, by rw [r.length]; exact hi⟩
end WH

namespace WH
open PySem PySem.Spec PyProof.Rows L2

/-! ## a dict is locked while it is walked -/
def isDct : HO → Prop
  | .dK _ => True
  | .dT _ => True
  | _ => False
/-- the end, a lock opened -/
def UnlQ (H0 : Hp) (Q : Hp → Prop) (H : Hp) : Prop := Q H ∨ ∃ d od u, H d = some (.frz od u) ∧ (∀ o' u', H0 d ≠ some (.frz o' u')) ∧ Q (upd H d u)
theorem unlQ_of {H0 : Hp} {Q : Hp → Prop} {H : Hp} {X : Cx} {pins : List (Addr × Obj)} {σ σ0 : L2.St} {s s0 : Shared} (I0 : L2.Inv X pins σ0 H0 s0) (I : L2.Inv X pins σ H s) (h : UnlQ H0 Q H) : ∃ H', L2.Inv X pins σ H' s ∧ Q H' := by
  rcases h with h | ⟨d, od, u, e, hn, h⟩
  · exact ⟨H, I, h⟩
  · exact ⟨_, I.unlock e (fun o' u' z => hn o' u' (I0.base.frzs d o' u' z)), h⟩
theorem pe_unl {X : Cx} {e : Expr} {t : TE} (h : PE X e t) : PE X e (fun σ H Q => t σ H fun v H1 => UnlQ H (Q v) H1) := by
  refine ⟨fun pins s σ H Q I hw => ?_⟩
  refine thn (h.run pins s σ H _ I hw) fun v s1 ⟨x, H1, I1, r, q⟩ => ?_
  obtain ⟨H2, I2, q2⟩ := unlQ_of I I1 q
  exact ⟨x, H2, I2, r, q2⟩
theorem ps_unl {X : Cx} {st : Stmt} {t : TS} (h : PS X st t) : PS X st (fun D σ H => t ⟨fun σ' => UnlQ H (D.nx σ'), fun v => UnlQ H (D.rt v), fun σ' => UnlQ H (D.bk σ'), fun σ' => UnlQ H (D.ct σ')⟩ σ H) := by
  refine ⟨fun pins s σ H D I hw => ?_⟩
  refine thn (h.run pins s σ H _ I hw) fun f s1 q => ?_
  cases f with
  | next => obtain ⟨σ', H1, I1, q⟩ := q; obtain ⟨H2, I2, q2⟩ := unlQ_of I I1 q; exact ⟨σ', H2, I2, q2⟩
  | brk => obtain ⟨σ', H1, I1, q⟩ := q; obtain ⟨H2, I2, q2⟩ := unlQ_of I I1 q; exact ⟨σ', H2, I2, q2⟩
  | cont => obtain ⟨σ', H1, I1, q⟩ := q; obtain ⟨H2, I2, q2⟩ := unlQ_of I I1 q; exact ⟨σ', H2, I2, q2⟩
  | ret v => obtain ⟨x, σ', H1, I1, r, q⟩ := q; obtain ⟨H2, I2, q2⟩ := unlQ_of I I1 q; exact ⟨x, σ', H2, I2, r, q2⟩
/-- Hk is H, perhaps with a dict locked -/
def Lck (wa : Option Addr) (H Hk : Hp) : Prop := Hk = H ∨ ∃ d od u, H d = some u ∧ isDct u ∧ wa ≠ some d ∧ Hk = upd H d (.frz od u)
def IA (K : Frag) (R : It → Hp → Prop) (x : V) (H : Hp) : Prop :=
  (∃ a xs, x = .ref a ∧ SqL K H a xs ∧ R (Itl K a) H) ∨ (∃ a xs, x = .ref a ∧ SqT K H a xs ∧ R (Itt K a) H) ∨ (∃ z, x = .str z ∧ R (Its z) H) ∨
  (∃ d kvs, x = .ref d ∧ ((H d = some (.dK kvs) ∧ ∀ o, R (Itk d o kvs) (upd H d (.frz o (.dK kvs)))) ∨ ∃ o, H d = some (.frz o (.dK kvs)) ∧ R (Itk d o kvs) H)) ∨
  ∃ d kvs, x = .ref d ∧ ((H d = some (.dT kvs) ∧ ∀ o, R (Itkt d o kvs) (upd H d (.frz o (.dT kvs)))) ∨ ∃ o, H d = some (.frz o (.dT kvs)) ∧ R (Itkt d o kvs) H)
theorem pi_any {X : Cx} {tg e : Expr} {te : TE} (he : PE X e te) : PI X tg e (fun σ H R => te σ H fun x H1 => IA X.K R x H1) := by
  refine ⟨fun pins s σ H R I h => ?_⟩
  refine thn (he.run pins s σ H _ I h) fun v s1 ⟨x, H1, I1, r1, q1⟩ => ?_
  have keyK : ∀ {d : Addr} {o : Obj} {kvs : List (Key × V)} {H2 : Hp}, L2.Inv X pins σ H2 s1 → H2 d = some (.frz o (.dK kvs)) → R (Itk d o kvs) H2 → wpAny (model X.prog X.w) X.A (pyIter (.ref d)) (PIE X pins σ tg R) X.xe s1 := fun {d o kvs H2} I2 hd q => by
    obtain ⟨hs, hgd, hx, es, ep, vs, hdt, hsz, kv, hm⟩ := I2.frzK hd
    refine iter_keys hs hgd hx hdt (pi_one (tk := s1.toks) I2 _ (turn_keys _ hdt) ⟨_, Heap.get?_push_size _ rfl, rfl, ?_⟩ q)
    rw [hsz] <;> rfl
  have keyT : ∀ {d : Addr} {o : Obj} {kvs : List (List Key × V)} {H2 : Hp}, L2.Inv X pins σ H2 s1 → H2 d = some (.frz o (.dT kvs)) → R (Itkt d o kvs) H2 → wpAny (model X.prog X.w) X.A (pyIter (.ref d)) (PIE X pins σ tg R) X.xe s1 := fun {d o kvs H2} I2 hd q => by
    obtain ⟨hs, hgd, hx, es, ep, hdt, hsz, ent⟩ := I2.frzT hd
    refine iter_keys hs hgd hx hdt (pi_one (tk := s1.toks) I2 _ (turn_keysT _ hdt) ⟨_, Heap.get?_push_size _ rfl, rfl, ?_⟩ q)
    rw [hsz] <;> rfl
  rcases q1 with ⟨a, xs, rfl, hq, q⟩ | ⟨a, xs, rfl, hq, q⟩ | ⟨z, rfl, q⟩ | ⟨d, kvs, rfl, q⟩ | ⟨d, kvs, rfl, q⟩
  · cases r1
    obtain ⟨its, rv, p, hz⟩ := I1.list hq
    refine wpAny_pyIter_list p.isList ?_
    refine ⟨s1.heap.objs.size, [s1.heap.objs.size], _, _, H1, rfl, I1.kept (t' := s1.toks) fun b o e => Heap.get?_push_of_some _ e, turn_list a _, ⟨_, Heap.get?_push_size _ rfl, rfl, rfl⟩, fun b hb => ?_, q⟩
    have e : b = s1.heap.objs.size := by simpa using hb
    subst e
    exact I1.fpOk (Nat.le_refl _) (I1.hok.fresh (Nat.le_refl _))
  · cases r1
    obtain ⟨its, rv, p, hz⟩ := I1.tuple hq
    refine wpAny_pyIter_tuple (show s1.heap.IsTuple a its.toArray from p) ?_
    refine ⟨s1.heap.objs.size, [s1.heap.objs.size], _, _, H1, rfl, I1.kept (t' := s1.toks) fun b o e => Heap.get?_push_of_some _ e, turn_tuple a _, ⟨_, Heap.get?_push_size _ rfl, rfl, rfl⟩, fun b hb => ?_, q⟩
    have e : b = s1.heap.objs.size := by simpa using hb
    subst e
    exact I1.fpOk (Nat.le_refl _) (I1.hok.fresh (Nat.le_refl _))
  · obtain ⟨t, rfl⟩ := r1
    cases ha : z.cps.all (· < 128)
    · exact wpAny_pyIter_wide ha (pi_one (tk := s1.toks) I1 _ (turn_str _ z t "str_iterator" (.inr rfl)) ⟨_, Heap.get?_push_size _ rfl, rfl, rfl⟩ q)
    · exact wpAny_pyIter_ascii ha (pi_one (tk := s1.toks) I1 _ (turn_str _ z t "str_ascii_iterator" (.inl rfl)) ⟨_, Heap.get?_push_size _ rfl, rfl, rfl⟩ q)
  · cases r1
    rcases q with ⟨hd, q⟩ | ⟨o, hd, q⟩
    · obtain ⟨od, I2⟩ := I1.lock hd trivial
      exact keyK I2 upd_same (q od)
    · exact keyK I1 hd q
  · cases r1
    rcases q with ⟨hd, q⟩ | ⟨o, hd, q⟩
    · obtain ⟨od, I2⟩ := I1.lock hd trivial
      exact keyT I2 upd_same (q od)
    · exact keyT I1 hd q

/-! ## sources -/
def signs (z : Str) : List D := z.cps.toList.map fun ch => .str ⟨#[ch]⟩
theorem it_signs {K : Frag} {z : Str} {P : Hp → Hp → Prop} : IterOk K (Its z) (signs z) P where
  item := fun i F H sb hp hi => by
    unfold signs at hi
    rw [List.length_map, Array.length_toList] at hi
    refine ⟨hi, fun x H' y => ?_⟩
    obtain ⟨rfl, ch, e, rfl⟩ := y
    refine ⟨F, .refl sb, ?_⟩
    have e2 : (signs z).getD i .none = .str ⟨#[ch]⟩ := by
      unfold signs
      rw [List.getD_eq_getElem?_getD, List.getElem?_map, Array.getElem?_toList, e] <;> rfl
    rw [e2]
    exact .str _
  done := fun i F H sb hp hi => by
    unfold signs at hi
    rw [List.length_map, Array.length_toList] at hi
    exact hi
def itemsS : Sl → Option (List D)
  | .ol ds => some ds
  | .od _ ps => some (ps.map (·.1))
  | .fr (.list ds) => some ds
  | .fr (.tuple ds) => some ds
  | .fr (.str z) => some (signs z)
  | .fr (.dict ps) => some (ps.map (·.1))
  | _ => none
/-- a walk's reading -/
def SrcRd (K : Frag) (wa : Option Addr) (o : Nat → Int) (lk : List Nat) (fz : Bool) (f : DenA) (wi : TI) : Prop := ∀ σ H R F ρ n ds n', ER K wa o F ρ σ H n → nl lk ρ → f ρ n = some (ds, n') →
    (∀ J F1 H1 Hk A, Stp (Wx wa) F H F1 H1 → ER K wa o F1 ρ σ H1 n' → Lck wa H1 Hk → (∀ a, A a → wa ≠ some a ∧ Hk a ≠ none ∧ (fz = true → ∃ o u, Hk a = some (.frz o u))) → (fz = true → ∀ a, Hk a ≠ H1 a → F1 a ≠ none) → IterOk K J ds (Pk F1 Hk A) → R J Hk) → wi σ H R
structure SRC (X : Cx) (c : Dc) (tg iter : Expr) (lk : List Nat) (fz : Bool) (f : DenA) (wi : TI) : Prop where
  pi : PI X tg iter wi
  rd : SrcRd X.K c.wa c.o lk fz f wi
  fs : ∀ env x, foldedSetIterable iter env x = pure x
def anyS (f : DenB) : DenA := fun ρ n => (f ρ n).bind fun p => (itemsS p.1).map (·, p.2)
theorem anyS_inv {f : DenB} {ρ : En} {n n' : Nat} {ds : List D} (e : anyS f ρ n = some (ds, n')) : ∃ s, f ρ n = some (s, n') ∧ itemsS s = some ds := by
  unfold anyS at e
  cases ef : f ρ n with
  | none => rw [ef] at e; cases e
  | some p =>
    rw [ef] at e
    simp only [Option.bind_some] at e
    cases e1 : itemsS p.1 with
    | none => rw [e1] at e; cases e
    | some x =>
      rw [e1] at e
      cases e
      exact ⟨p.1, by rw [← ef], e1⟩
section
variable {X : Cx} {c : Dc} {tg e : Expr} {la : List Nat} {f : DenB}
theorem kp_lst {ex : Addr → Prop} {F H F' H' : Hp} {a : Addr} {u : HO} (st : Stp ex F H F' H') (w : ¬ ex a) (h : Rx H a u) : Rx H' a u := by
  rcases h with h | ⟨ob, h, nt⟩
  · exact .inl (st.kp a _ w h)
  · exact .inr ⟨ob, st.kp a _ w h, nt⟩
/-- the object of a dict, found: locked or not -/
theorem ia_dict {K : Frag} {wa : Option Addr} {R : It → Hp → Prop} {F H : Hp} {a : Addr} {o : HO} {tk : Bool} {ps : List (D × D)} (hw : wa ≠ some a) (q : Rx H a o) (d : DO K F tk o ps)
    (hR : ∀ J Hk A, Lck wa H Hk → (∀ a, A a → wa ≠ some a ∧ Hk a ≠ none ∧ ∃ o u, Hk a = some (.frz o u)) → (∀ b, Hk b ≠ H b → b = a) → IterOk K J (ps.map (·.1)) (Pk F Hk A) → R J Hk) : IA K R (.ref a) H := by
  have one : ∀ x : HO, ∀ b, (upd H a x) b ≠ H b → b = a := fun x b h => Classical.byContradiction fun z => h (upd_ne z)
  cases tk with
  | false =>
    obtain ⟨kvs, rfl, r⟩ := d
    refine .inr (.inr (.inr (.inl ⟨a, kvs, rfl, ?_⟩)))
    rcases q with q | ⟨ob, q, _⟩
    · refine .inl ⟨q, fun ob => hR _ _ (fun b => b = a) (.inr ⟨a, ob, _, q, trivial, hw, rfl⟩) (fun b e => ?_) (one _) (it_keys (fun F H p => (p.2 a rfl).trans upd_same) r)⟩
      subst e
      exact ⟨hw, (by rw [upd_same]; exact (fun z => nomatch z)), ob, _, upd_same⟩
    · refine .inr ⟨ob, q, hR _ _ (fun b => b = a) (.inl rfl) (fun b e => ?_) (fun b h => absurd rfl h) (it_keys (fun F H p => (p.2 a rfl).trans q) r)⟩
      subst e
      exact ⟨hw, (by rw [q]; exact (fun z => nomatch z)), ob, _, q⟩
  | true =>
    obtain ⟨kvs, rfl, r⟩ := d
    refine .inr (.inr (.inr (.inr ⟨a, kvs, rfl, ?_⟩)))
    rcases q with q | ⟨ob, q, _⟩
    · refine .inl ⟨q, fun ob => hR _ _ (fun b => b = a) (.inr ⟨a, ob, _, q, trivial, hw, rfl⟩) (fun b e => ?_) (one _) (it_keysT (fun F H p => (p.2 a rfl).trans upd_same) r)⟩
      subst e
      exact ⟨hw, (by rw [upd_same]; exact (fun z => nomatch z)), ob, _, upd_same⟩
    · refine .inr ⟨ob, q, hR _ _ (fun b => b = a) (.inl rfl) (fun b e => ?_) (fun b h => absurd rfl h) (it_keysT (fun F H p => (p.2 a rfl).trans q) r)⟩
      subst e
      exact ⟨hw, (by rw [q]; exact (fun z => nomatch z)), ob, _, q⟩
theorem WOk.not {K : Frag} {o : Nat → Int} {F H : Hp} {n : Nat} {wa : Option Addr} (w : WOk K o F H n wa) {a : Addr} (h : F a ≠ none) : wa ≠ some a := fun e => by
  subst e
  exact h w.1
theorem ia_any {wa : Option Addr} {o : Nat → Int} {n : Nat} {R : It → Hp → Prop} {F H : Hp} {s : Sl} {x : V} {ds : List D} (sb : Sb F H) (w : WOk X.K o F H n wa) (r : SR X.K wa F H s x) (e : itemsS s = some ds)
    (hR : ∀ J Hk A, Lck wa H Hk → (∀ a, A a → wa ≠ some a ∧ Hk a ≠ none ∧ (s.own = false → ∃ o u, Hk a = some (.frz o u))) → (s.own = false → ∀ a, Hk a ≠ H a → F a ≠ none) → IterOk X.K J ds (Pk F Hk A) → R J Hk) : IA X.K R x H := by
  have no : s.own = false → ∀ a, H a ≠ H a → F a ≠ none := fun _ _ h => absurd rfl h
  cases s with
  | ww => cases e
  | ks _ => cases e
  | ol ds' =>
    cases e
    obtain ⟨a, xs, rfl, hw, hf, q, r⟩ := r
    refine .inl ⟨a, xs, rfl, .of q, hR _ _ (fun b => b = a) (.inl rfl) (fun b e => ?_) no (it_list fun F H _ p => ⟨xs, .of ((p.2 a rfl).trans q), r.mono (sb_of p.1)⟩)⟩
    subst e
    exact ⟨hw, (by rw [q]; exact (fun z => nomatch z)), (fun z => nomatch z)⟩
  | od tk ps =>
    cases e
    obtain ⟨a, o', rfl, hw, hf, q, r⟩ := r
    exact ia_dict hw q r fun J Hk A p1 p2 p4 p3 => hR J Hk A p1 (fun b z => ⟨(p2 b z).1, (p2 b z).2.1, fun _ => (p2 b z).2.2⟩) (fun z => nomatch z) p3
  | fr d =>
    have r : RD X.K F x d := r
    cases d with
    | list ds' =>
      cases e
      cases r with
      | lst q r => exact .inl ⟨_, _, rfl, .inl (sb _ _ q).rd, hR _ _ (fun _ => False) (.inl rfl) (fun _ z => z.elim) no (it_list fun F H sb p => ⟨_, .inl (sb _ _ (sb_of p.1 _ _ q)).rd, r.mono (sb_of p.1)⟩)⟩
    | tuple ds' =>
      cases e
      cases r with
      | tup q r => exact .inr (.inl ⟨_, _, rfl, .of (sb _ _ (.inl q)).tup, hR _ _ (fun _ => False) (.inl rfl) (fun _ z => z.elim) no (it_tup fun F H sb p => ⟨_, .of (sb _ _ (.inl (p.1 _ _ q))).tup, r.mono (sb_of p.1)⟩)⟩)
    | str z =>
      cases e
      cases r
      exact .inr (.inr (.inl ⟨z, rfl, hR _ _ (fun _ => False) (.inl rfl) (fun _ z => z.elim) no it_signs⟩))
    | dict ps =>
      cases e
      have cont : ∀ a, F a ≠ none → ∀ J Hk A, Lck wa H Hk → (∀ a, A a → wa ≠ some a ∧ Hk a ≠ none ∧ ∃ o u, Hk a = some (.frz o u)) → (∀ b, Hk b ≠ H b → b = a) → IterOk X.K J (ps.map (·.1)) (Pk F Hk A) → R J Hk := fun a ha J Hk A p1 p2 p4 p3 => hR J Hk A p1 (fun b z => ⟨(p2 b z).1, (p2 b z).2.1, fun _ => (p2 b z).2.2⟩) (fun _ b hb => (by rw [p4 b hb]; exact ha)) p3
      cases r with
      | dk q r => exact ia_dict (tk := false) (w.not (Rd.there q)) (sb _ _ q) ⟨_, rfl, r⟩ (cont _ (Rd.there q))
      | dt q r => exact ia_dict (tk := true) (w.not (Rd.there q)) (sb _ _ q) ⟨_, rfl, r⟩ (cont _ (Rd.there q))
    | _ => cases e
def wiAny (K : Frag) (te : TE) : TI := fun σ H R => te σ H fun x H1 => IA K R x H1
theorem SRC_any (he : EB X c e la f) (hs : ∀ env x, foldedSetIterable e env x = pure x) : SRC X c tg e la false (anyS f) (wiAny X.K (tB X.K c.wa c.o la f)) := ⟨pi_any he.run, fun σ H R F ρ n ds n' E hl hf hR => by
  obtain ⟨s, e1, e2⟩ := anyS_inv hf
  exact ⟨F, ρ, n, s, n', E, hl, e1, fun v F1 H1 st1 E1 r1 => ia_any E1.sb E1.ww r1 e2 fun J Hk A l p1 p3 p2 => hR J F1 H1 Hk A st1 E1 l (fun a z => ⟨(p1 a z).1, (p1 a z).2.1, fun z => nomatch z⟩) (fun z => nomatch z) p2⟩, hs⟩
theorem SRC_fz {g : Den} (he : EX X c e la .no g) (hs : ∀ env x, foldedSetIterable e env x = pure x) : SRC X c tg e la true (anyS (dB g)) (wiAny X.K (tB X.K c.wa c.o la (dB g))) := ⟨pi_any he.b.run, fun σ H R F ρ n ds n' E hl hf hR => by
  obtain ⟨s, e1, e2⟩ := anyS_inv hf
  have ho : s.own = false := by
    unfold dB at e1
    cases eg : g ρ n with
    | none => rw [eg] at e1; cases e1
    | some p => rw [eg] at e1; cases e1; rfl
  exact ⟨F, ρ, n, s, n', E, hl, e1, fun v F1 H1 st1 E1 r1 => ia_any E1.sb E1.ww r1 e2 fun J Hk A l p1 p3 p2 => hR J F1 H1 Hk A st1 E1 l (fun a z => ⟨(p1 a z).1, (p1 a z).2.1, fun _ => (p1 a z).2.2 ho⟩) (fun _ => p3 ho) p2⟩, hs⟩
def rng1S (f : DenB) : DenA := fun ρ n => (f ρ n).bind fun p => match p.1 with
  | .fr (.int j) => if decide (j < 1000000) && decide (-1000000 < j) then some (rangeD 0 j.toNat, p.2) else none
  | _ => none
def rng2S (f g : DenB) : DenA := fun ρ n => (f ρ n).bind fun p => (g ρ p.2).bind fun q => match p.1, q.1 with
  | .fr (.int i), .fr (.int j) => if decide (j < 1000000) && decide (-1000000 < j) && decide (i < 1000000) && decide (-1000000 < i) then some (rangeD i (j - i).toNat, q.2) else none
  | _, _ => none
theorem SRC_rng1 {p pos : Pos} (hg : Gl X "range") (hm : X.mg "range" = none) (ha : EAB X c [e] la (consB f nilB)) (hs : starEach [e] X.env = [(false, eval e X.env)]) : SRC X c tg (.Call (.Name "range" p) [e] [] pos) la true (rng1S f) (iRng1 (tAB X.K c.wa c.o la (consB f nilB))) :=
  by
  refine ⟨pi_range1 hg hm ha.run hs, fun σ H R F ρ n ds n' E hl hf hR => ?_, fun _ _ => rfl⟩
  · skip
    unfold rng1S at hf
    cases ef : f ρ n with
    | none => rw [ef] at hf; cases hf
    | some p =>
      rw [ef] at hf
      obtain ⟨s, m⟩ := p
      simp only [Option.bind_some] at hf
      cases s with
      | fr d =>
        cases d with
        | int j =>
          simp only at hf
          split at hf
          · rename_i hz
            simp only [Bool.and_eq_true, decide_eq_true_eq] at hz
            cases hf
            refine ⟨F, ρ, n, [.fr (.int j)], n', E, hl, by unfold consB nilB; rw [ef] <;> rfl, fun vs F1 H1 st1 E1 r1 => ?_⟩
            cases r1 with
            | cons r1 r2 =>
              cases r2
              cases (show RD X.K F1 _ (.int j) from r1)
              exact ⟨j, rfl, by omega, by omega, hR _ F1 H1 H1 (fun _ => False) st1 E1 (.inl rfl) (fun _ z => z.elim) (fun _ _ h => absurd rfl h) it_range⟩
          · cases hf
        | _ => cases hf
      | _ => cases hf
theorem SRC_rng2 {b : Expr} {g : DenB} {p pos : Pos} (hg : Gl X "range") (hm : X.mg "range" = none) (ha : EAB X c [e, b] la (consB f (consB g nilB))) (hs : starEach [e, b] X.env = [(false, eval e X.env), (false, eval b X.env)]) (hs2 : starEach [b] X.env = [(false, eval b X.env)]) :
    SRC X c tg (.Call (.Name "range" p) [e, b] [] pos) la true (rng2S f g) (iRng2 (tAB X.K c.wa c.o la (consB f (consB g nilB)))) :=
  by
  refine ⟨pi_range2 hg hm ha.run hs hs2, fun σ H R F ρ n ds n' E hl hf hR => ?_, fun _ _ => rfl⟩
  · skip
    unfold rng2S at hf
    cases ef : f ρ n with
    | none => rw [ef] at hf; cases hf
    | some p =>
      rw [ef] at hf
      obtain ⟨s, m⟩ := p
      simp only [Option.bind_some] at hf
      cases eg : g ρ m with
      | none => rw [eg] at hf; cases hf
      | some q =>
        rw [eg] at hf
        obtain ⟨t, m2⟩ := q
        simp only [Option.bind_some] at hf
        split at hf
        · rename_i i j
          split at hf
          · rename_i hz
            simp only [Bool.and_eq_true, decide_eq_true_eq] at hz
            cases hf
            refine ⟨F, ρ, n, [.fr (.int i), .fr (.int j)], n', E, hl, by unfold consB nilB; rw [ef]; simp only [Option.bind_some]; rw [eg] <;> rfl, fun vs F1 H1 st1 E1 r1 => ?_⟩
            cases r1 with
            | cons r1 r2 =>
              cases r2 with
              | cons r2 r3 =>
                cases r3
                cases (show RD X.K F1 _ (.int i) from r1)
                cases (show RD X.K F1 _ (.int j) from r2)
                exact ⟨i, j, rfl, by omega, hR _ F1 H1 H1 (fun _ => False) st1 E1 (.inl rfl) (fun _ z => z.elim) (fun _ _ h => absurd rfl h) it_range⟩
          · cases hf
        · cases hf
end
end WH

namespace WH
open PySem PySem.Spec PyProof.Rows L2

/-! ## targets -/
abbrev DenG := En → D → Option En
abbrev DenGs := En → List D → Option En
/-- outside of ts the slots are as they were -/
def Out (ts : List Nat) (σ σ' : L2.St) : Prop := σ'.length = σ.length ∧ ∀ i, i ∉ ts → σ'[i]? = σ[i]?
theorem Out.refl (ts : List Nat) (σ : L2.St) : Out ts σ σ := ⟨rfl, fun _ _ => rfl⟩
theorem Out.trans {a b : List Nat} {σ σ1 σ2 : L2.St} (h : Out a σ σ1) (g : Out b σ1 σ2) : Out (a ++ b) σ σ2 :=
  ⟨g.1.trans h.1, fun i hi => (g.2 i fun z => hi (List.mem_append_right _ z)).trans (h.2 i fun z => hi (List.mem_append_left _ z))⟩
def tG (K : Frag) (wa : Option Addr) (o : Nat → Int) (ts : List Nat) (g : DenG) : TG := fun v σ H Q => ∃ F ρ n d ρ', ER K wa o F ρ σ H n ∧ RD K F v d ∧ g ρ d = some ρ' ∧ ∀ σ', ER K wa o F ρ' σ' H n → Out ts σ σ' → Q σ' H
def tGs (K : Frag) (wa : Option Addr) (o : Nat → Int) (ts : List Nat) (g : DenGs) : TGs := fun vs σ H Q => ∃ F ρ n ds ρ', ER K wa o F ρ σ H n ∧ RDs K F vs ds ∧ g ρ ds = some ρ' ∧ ∀ σ', ER K wa o F ρ' σ' H n → Out ts σ σ' → Q σ' H
structure EG (X : Cx) (c : Dc) (tg : Expr) (ts : List Nat) (g : DenG) : Prop where
  run : PG X tg (tG X.K c.wa c.o ts g)
structure EGs (X : Cx) (c : Dc) (tg : List Expr) (ts : List Nat) (g : DenGs) : Prop where
  run : PGs X tg (tGs X.K c.wa c.o ts g)
theorem pg_weak {X : Cx} {e : Expr} {t t' : TG} (h : PG X e t) (w : ∀ v σ H Q, t' v σ H Q → t v σ H Q) : PG X e t' := ⟨fun pins s σ H v u Q I r q => h.run pins s σ H v u Q I r (w v σ H Q q)⟩
theorem pgs_weak {X : Cx} {e : List Expr} {t t' : TGs} (h : PGs X e t) (w : ∀ v σ H Q, t' v σ H Q → t v σ H Q) : PGs X e t' := ⟨fun pins s σ H v u Q I r q => h.run pins s σ H v u Q I r (w v σ H Q q)⟩
theorem set_none {σ : L2.St} {i : Nat} {x : Option V} (h : ¬ i < σ.length) : σ.set i x = σ := List.set_eq_of_length_le (by omega)
theorem eset_none : ∀ {ρ : En} {i : Nat} {x : Option Sl}, ¬ i < ρ.length → eset ρ i x = ρ
  | [], _, _, _ => rfl
  | _ :: _, 0, _, h => absurd (by simp) h
  | _ :: r, i + 1, x, h => by rw [eset, eset_none (ρ := r) (fun z => h (by simpa using z))]
theorem ER.set {K : Frag} {wa : Option Addr} {o : Nat → Int} {F : Hp} {ρ : En} {σ : L2.St} {H : Hp} {n i : Nat} {v : V} {d : D} (E : ER K wa o F ρ σ H n) (r : RD K F v d) : ER K wa o F (eset ρ i (some (.fr d))) (σ.set i (some v)) H n := by
  by_cases hi : i < ρ.length
  · have hs : i < σ.length := by rw [← E.len]; exact hi
    refine ⟨E.sb, fun j s h => ?_, fun j k s t a hjk h1 h2 o1 o2 e1 => ?_, E.ww, by rw [eset_length, List.length_set]; exact E.len⟩
    · by_cases hj : i = j
      · subst hj
        rw [eget_eset_same hi] at h
        cases h
        exact ⟨v, List.getElem?_set_self hs, r⟩
      · rw [eget_eset_ne hj] at h
        obtain ⟨w, e1, e2⟩ := E.sl j s h
        exact ⟨w, by rw [List.getElem?_set_ne hj]; exact e1, e2⟩
    · have nj : i ≠ j := fun e => by
        subst e
        rw [eget_eset_same hi] at h1
        cases h1
        cases o1
      have nk : i ≠ k := fun e => by
        subst e
        rw [eget_eset_same hi] at h2
        cases h2
        cases o2
      rw [eget_eset_ne nj] at h1
      rw [eget_eset_ne nk] at h2
      rw [List.getElem?_set_ne nj] at e1
      rw [List.getElem?_set_ne nk]
      exact E.ap j k s t a hjk h1 h2 o1 o2 e1
  · rw [eset_none hi, set_none (by rw [← E.len]; exact hi)]
    exact E
/-- a slot forgotten -/
theorem ER.wipe1 {K : Frag} {wa : Option Addr} {o : Nat → Int} {F : Hp} {ρ : En} {σ : L2.St} {H : Hp} {n i : Nat} {x : Option V} (E : ER K wa o F ρ σ H n) : ER K wa o F (eset ρ i none) (σ.set i x) H n := by
  by_cases hi : i < ρ.length
  · have hs : i < σ.length := by rw [← E.len]; exact hi
    refine ⟨E.sb, fun j s h => ?_, fun j k s t a hjk h1 h2 o1 o2 e1 => ?_, E.ww, by rw [eset_length, List.length_set]; exact E.len⟩
    · by_cases hj : i = j
      · subst hj
        rw [eget_eset_same hi] at h
        cases h
      · rw [eget_eset_ne hj] at h
        obtain ⟨w, e1, e2⟩ := E.sl j s h
        exact ⟨w, by rw [List.getElem?_set_ne hj]; exact e1, e2⟩
    · have nj : i ≠ j := fun e => by
        subst e
        rw [eget_eset_same hi] at h1
        cases h1
      have nk : i ≠ k := fun e => by
        subst e
        rw [eget_eset_same hi] at h2
        cases h2
      rw [eget_eset_ne nj] at h1
      rw [eget_eset_ne nk] at h2
      rw [List.getElem?_set_ne nj] at e1
      rw [List.getElem?_set_ne nk]
      exact E.ap j k s t a hjk h1 h2 o1 o2 e1
  · rw [eset_none hi, set_none (by rw [← E.len]; exact hi)]
    exact E
def wipeE (ρ : En) : List Nat → En
  | [] => ρ
  | v :: vs => eset (wipeE ρ vs) v none
theorem ER.wipe {K : Frag} {wa : Option Addr} {o : Nat → Int} {F : Hp} {ρ : En} {σ : L2.St} {H : Hp} {n : Nat} (E : ER K wa o F ρ σ H n) : ∀ vs : List Nat, ER K wa o F (wipeE ρ vs) (L2.wipe σ vs) H n
  | [] => E
  | _ :: vs => (E.wipe vs).wipe1
theorem wipe_get (σ : L2.St) : ∀ (vs : List Nat) (i : Nat), i ∈ vs → (L2.wipe σ vs)[i]? = (if i < σ.length then some none else none)
  | v :: vs, i, h => by
    unfold L2.wipe
    by_cases e : v = i
    · subst e
      by_cases hl : v < σ.length
      · rw [List.getElem?_set_self (by rw [wipe_length]; exact hl), if_pos hl]
      · rw [if_neg hl, List.getElem?_eq_none (by rw [List.length_set, wipe_length]; omega)]
    · rw [List.getElem?_set_ne e]
      exact wipe_get σ vs i ((List.mem_cons.mp h).resolve_left fun z => e z.symm)
theorem wipe_of_out {ts vs : List Nat} {σ σ' : L2.St} (h : Out ts (L2.wipe σ vs) σ') (hs : ∀ i ∈ ts, i ∈ vs) : L2.wipe σ' vs = L2.wipe σ vs := by
  have hl : σ'.length = σ.length := h.1.trans (wipe_length σ vs)
  apply List.ext_getElem?
  intro i
  by_cases hi : i ∈ vs
  · rw [wipe_get σ' vs i hi, wipe_get σ vs i hi, hl]
  · rw [wipe_out hi, h.2 i fun z => hi (hs i z)]
section
variable {X : Cx} {c : Dc} {e : Expr} {es : List Expr} {ts us : List Nat} {g : DenG} {gs : DenGs}
def nameG (i : Nat) : DenG := fun ρ d => some (eset ρ i (some (.fr d)))
theorem EG_name {i : Nat} {x : Str} {pos : Pos} (hN : X.N.Nodup) (hi : X.N[i]? = some x) (hx : Loc X.env.scope x) (hf : X.fn x = true ∨ X.env.scope.names.lookup x = some .local) : EG X c (.Name x pos) [i] (nameG i) :=
  ⟨pg_weak (pg_name hN hi hx hf) fun v σ H Q ⟨F, ρ, n, d, ρ', E, r, hg, q⟩ => by
    cases hg
    exact q _ (E.set r) ⟨List.length_set, fun j hj => List.getElem?_set_ne (fun e => hj (by rw [e]; exact List.mem_singleton.mpr rfl))⟩⟩
def nilG : DenGs := fun ρ ds => match ds with
  | [] => some ρ
  | _ => none
def consG (g : DenG) (gs : DenGs) : DenGs := fun ρ ds => match ds with
  | d :: r => (g ρ d).bind fun ρ1 => gs ρ1 r
  | [] => none
theorem EGs_nil : EGs X c [] [] nilG := ⟨pgs_weak pgs_nil fun vs σ H Q ⟨F, ρ, n, ds, ρ', E, r, hg, q⟩ => by
  cases r with
  | nil => cases hg; exact ⟨rfl, q σ E (.refl _ _)⟩
  | cons _ _ => cases hg⟩
def notStar : Expr → Bool
  | .Starred _ _ => false
  | _ => true
theorem starEach_cons {e : Expr} {es : List Expr} {env : Env} (h : notStar e = true) : starEach (e :: es) env = (false, eval e env) :: starEach es env := by
  cases e <;> first | rfl | cases h
theorem starEach_plain {env : Env} {pos : Pos} : ∀ {es : List Expr}, es.all notStar = true → (backTo pos (starEach es env)).any (·.1) = false
  | [], _ => rfl
  | e :: es, h => by
    rw [List.all_cons, Bool.and_eq_true] at h
    rw [starEach_cons h.1]
    show (false || (backTo pos (starEach es env)).any (·.1)) = false
    rw [starEach_plain h.2] <;> rfl
theorem assignEach_cons {e : Expr} {es : List Expr} {env : Env} (h : notStar e = true) : assignEach (e :: es) env = (false, assign e env) :: assignEach es env := by
  cases e <;> first | rfl | cases h
theorem assignEach_len {env : Env} : ∀ {es : List Expr}, es.all notStar = true → (assignEach es env).length = es.length ∧ (assignEach es env).findIdx? (·.1) = none
  | [], _ => ⟨rfl, rfl⟩
  | e :: es, h => by
    rw [List.all_cons, Bool.and_eq_true] at h
    obtain ⟨h1, h2⟩ := assignEach_len (env := env) h.2
    rw [assignEach_cons h.1]
    refine ⟨by rw [List.length_cons, List.length_cons, h1], ?_⟩
    rw [List.findIdx?_cons, h2] <;> rfl
theorem EGs_cons (h1 : EG X c e ts g) (h2 : EGs X c es us gs) (hs : notStar e = true) : EGs X c (e :: es) (ts ++ us) (consG g gs) :=
  ⟨pgs_weak (pgs_cons h1.run h2.run (by rw [assignEach_cons hs] <;> rfl)) fun vs σ H Q ⟨F, ρ, n, ds, ρ', E, r, hg, q⟩ => by
    cases r with
    | nil => cases hg
    | @cons v d vs ds r1 r2 =>
      have hg' : (g ρ d).bind (fun ρ1 => gs ρ1 ds) = some ρ' := hg
      cases e1 : g ρ d with
      | none => rw [e1] at hg'; cases hg'
      | some ρ1 =>
        rw [e1] at hg'
        exact ⟨v, vs, rfl, F, ρ, n, d, ρ1, E, r1, e1, fun σ1 E1 o1 => ⟨F, ρ1, n, ds, ρ', E1, r2, hg', fun σ2 E2 o2 => q σ2 E2 (o1.trans o2)⟩⟩⟩
theorem pg_or {t t' : TG} (h : PG X e t) (h' : PG X e t') : PG X e (fun v σ H Q => t v σ H Q ∨ t' v σ H Q) := ⟨fun pins s σ H v u Q I r q => by
  rcases q with q | q
  · exact h.run pins s σ H v u Q I r q
  · exact h'.run pins s σ H v u Q I r q⟩
def tupG (k : Nat) (gs : DenGs) : DenG := fun ρ d => match d with
  | .tuple ds => if ds.length = k then gs ρ ds else none
  | .list ds => if ds.length = k then gs ρ ds else none
  | _ => none
theorem EG_tup {k : Nat} {pos : Pos} (hc : X.calm = true) (h : EGs X c es ts gs) (hs : es.all notStar = true) : EG X c (.Tuple es k pos) ts (tupG es.length gs) :=
  ⟨pg_weak (pg_or (pg_tup hc h.run (assignEach_len hs).1 (assignEach_len hs).2) (pg_unl hc h.run (assignEach_len hs).1 (assignEach_len hs).2)) fun v σ H Q ⟨F, ρ, n, d, ρ', E, r, hg, q⟩ => by
    unfold tupG at hg
    split at hg
    · split at hg
      · rename_i hl
        cases r with
        | tup q1 r => exact .inl ⟨_, _, rfl, .of (E.sb _ _ (.inl q1)).tup, by rw [r.length]; exact hl, F, ρ, n, _, ρ', E, r, hg, q⟩
      · cases hg
    · split at hg
      · rename_i hl
        cases r with
        | lst q1 r => exact .inr ⟨_, _, rfl, .inl (E.sb _ _ q1).rd, by rw [r.length]; exact hl, F, ρ, n, _, ρ', E, r, hg, q⟩
      · cases hg
    · cases hg⟩
end

/-! ## tests of a comprehension -/
structure ETs (X : Cx) (c : Dc) (ifs : List Expr) (lk : List Nat) (f : Den) : Prop where
  run : PTs X ifs (tT X.K c.wa c.o lk f)
theorem pts_weak {X : Cx} {e : List Expr} {t t' : TT} (h : PTs X e t) (w : ∀ σ H Q, t' σ H Q → t σ H Q) : PTs X e t' := ⟨fun pins s σ H Q I q => h.run pins s σ H Q I (w σ H Q q)⟩
theorem ETs_nil {X : Cx} {c : Dc} : ETs X c [] [] (dLit (.bool true)) := ⟨pts_weak pts_nil fun σ H Q ⟨F, ρ, n, b, n', E, hl, hf, q⟩ => by
  cases hf
  exact q F H (.refl E.sb) E⟩
theorem ETs_one {X : Cx} {c : Dc} {e : Expr} {lk : List Nat} {f : Den} (h : ET X c e lk f) : ETs X c [e] lk f := ⟨pts_one h.run⟩

/-! ## a list being made at D -/
/-- D aside (and the draws): a step -/
abbrev ExD (wa : Option Addr) (D : Addr) (a : Addr) : Prop := wa = some a ∨ a = D
theorem Stp.mono {ex ex' : Addr → Prop} {F H F' H' : Hp} (st : Stp ex F H F' H') (h : ∀ a, ex a → ex' a) : Stp ex' F H F' H' := ⟨fun a u w e => st.kp a u (fun z => w (h a z)) e, st.kn, st.fx, st.nw, st.kt, st.ok⟩
/-- the object at D turns into another of its kind -/
theorem Stp.turn {ex : Addr → Prop} {F H : Hp} {D : Addr} {o o' : HO} (sb : Sb F H) (hF : F D = none) (hD : H D = some o) (ht : notTup o') (hx : ex D) : Stp ex F H F (upd H D o') where
  kp := fun a u w e => by rw [upd_ne (fun z => w (by rw [z]; exact hx))]; exact e
  kn := fun a e => by
    by_cases z : a = D
    · subst z; rw [upd_same]; exact fun y => nomatch y
    · rw [upd_ne z]; exact e
  fx := fun _ _ e => e
  nw := fun _ e => .inl e
  kt := fun a xs e => by
    by_cases z : a = D
    · subst z; rw [upd_same] at e; cases e; exact ht.elim
    · rw [upd_ne z] at e; exact .inr e
  ok := fun a u r => by
    have z : a ≠ D := fun z => Rd.there r (z ▸ hF)
    rcases sb a u r with r | ⟨ob, r, nt⟩
    · exact .inl (by rw [upd_ne z]; exact r)
    · exact .inr ⟨ob, by rw [upd_ne z]; exact r, nt⟩
theorem ER.turn {K : Frag} {wa : Option Addr} {o : Nat → Int} {F : Hp} {ρ : En} {σ : L2.St} {H : Hp} {n : Nat} {D : Addr} {u u' : HO} (E : ER K wa o F ρ σ H n) (hF : F D = none) (hD : H D = some u) (hu : ∀ ob w, u ≠ .frz ob w) (hw : wa ≠ some D)
    (hs : ∀ i s, eget ρ i = some s → s.own = true → σ[i]? ≠ some (some (.ref D))) : ER K wa o F ρ σ (upd H D u') n := by
  refine ⟨fun a v r => ?_, fun i s h => ?_, E.ap, ?_, E.len⟩
  · have z : a ≠ D := fun z => Rd.there r (z ▸ hF)
    rcases E.sb a v r with r | ⟨ob, r, nt⟩
    · exact .inl (by rw [upd_ne z]; exact r)
    · exact .inr ⟨ob, by rw [upd_ne z]; exact r, nt⟩
  · obtain ⟨v, h1, h2⟩ := E.sl i s h
    refine ⟨v, h1, ?_⟩
    cases s with
    | fr d => exact h2
    | ww => exact h2
    | ks _ =>
      obtain ⟨c, rfl, w, q⟩ := h2
      refine ⟨c, rfl, w, q.imp (fun ⟨o', q⟩ => ⟨o', ?_⟩) id⟩
      have z : c ≠ D := fun z => by rw [z, hD] at q; cases q; exact hu _ _ rfl
      rw [upd_ne z]; exact q
    | ol ds =>
      obtain ⟨c, xs, rfl, w, f, q, r⟩ := h2
      have z : c ≠ D := fun z => hs i _ h rfl (z ▸ h1)
      exact ⟨c, xs, rfl, w, f, by rw [upd_ne z]; exact q, r⟩
    | od tk ps =>
      obtain ⟨c, o', rfl, w, f, q, r⟩ := h2
      have z : c ≠ D := fun z => hs i _ h rfl (z ▸ h1)
      refine ⟨c, o', rfl, w, f, ?_, r⟩
      rcases q with q | ⟨ob, q, nt⟩
      · exact .inl (by rw [upd_ne z]; exact q)
      · exact .inr ⟨ob, by rw [upd_ne z]; exact q, nt⟩
  · have w := E.ww
    cases wa with
    | none => exact True.intro
    | some c =>
      obtain ⟨f, la, ds, q, r⟩ := w
      have z : c ≠ D := fun e => hw (by rw [e])
      exact ⟨f, la, ds, by rw [upd_ne z]; exact q, r⟩
/-- the environment under a lock, and the lock opened -/
theorem ER.lock {K : Frag} {wa : Option Addr} {o : Nat → Int} {F : Hp} {ρ : En} {σ : L2.St} {H Hk : Hp} {n : Nat} (E : ER K wa o F ρ σ H n) (l : Lck wa H Hk) : ER K wa o F ρ σ Hk n := by
  rcases l with rfl | ⟨d, od, u, hd, du, hw, rfl⟩
  · exact E
  have nt : notTup u := by cases u <;> first | trivial | exact du.elim
  have key : ∀ a v, Rx H a v → notTup v ∨ a ≠ d → Rx (upd H d (.frz od u)) a v := fun a v r nv => by
    by_cases z : a = d
    · subst z
      rcases r with r | ⟨ob, r, _⟩
      · rw [hd] at r
        cases r
        exact .inr ⟨od, upd_same, nt⟩
      · rw [hd] at r
        cases r
        cases (du : False)
    · rcases r with r | ⟨ob, r, nt⟩
      · exact .inl (by rw [upd_ne z]; exact r)
      · exact .inr ⟨ob, by rw [upd_ne z]; exact r, nt⟩
  have key2 : ∀ a v, Rx H a v → Rx (upd H d (.frz od u)) a v := fun a v r => by
    by_cases z : a = d
    · refine key a v r (.inl ?_)
      subst z
      rcases r with r | ⟨ob, r, nv⟩
      · rw [hd] at r; cases r; exact nt
      · exact nv
    · exact key a v r (.inr z)
  refine ⟨fun a v r => key2 a v (E.sb a v r), fun i s h => ?_, E.ap, ?_, E.len⟩
  · obtain ⟨v, h1, h2⟩ := E.sl i s h
    refine ⟨v, h1, ?_⟩
    cases s with
    | fr d => exact h2
    | ww => exact h2
    | ks _ =>
      obtain ⟨c, rfl, w, q⟩ := h2
      refine ⟨c, rfl, w, q.imp (fun ⟨o', q⟩ => ⟨o', ?_⟩) id⟩
      have z : c ≠ d := fun z => by rw [z, hd] at q; cases q; exact (du : False)
      rw [upd_ne z]; exact q
    | ol ds =>
      obtain ⟨c, xs, rfl, w, f, q, r⟩ := h2
      have z : c ≠ d := fun z => by
        rw [z, hd] at q
        cases q
        cases (du : False)
      exact ⟨c, xs, rfl, w, f, by rw [upd_ne z]; exact q, r⟩
    | od tk ps =>
      obtain ⟨c, o', rfl, w, f, q, r⟩ := h2
      exact ⟨c, o', rfl, w, f, key2 _ _ q, r⟩
  · have w := E.ww
    cases wa with
    | none => exact True.intro
    | some c =>
      obtain ⟨f, la, ds, q, r⟩ := w
      have z : c ≠ d := fun e => hw (by rw [e])
      exact ⟨f, la, ds, by rw [upd_ne z]; exact q, r⟩
end WH

namespace WH
open PySem PySem.Spec PyProof.Rows L2

theorem isDct.nt {u : HO} (h : isDct u) : notTup u := by cases u <;> first | trivial | exact (h : False).elim
theorem Stp.unlock {ex : Addr → Prop} {F H F' Hk' : Hp} {d : Addr} {od : Obj} {u : HO} (sb : Sb F H) (hd : H d = some u) (du : isDct u) (hx : ¬ ex d) (st : Stp ex F (upd H d (.frz od u)) F' Hk') : Stp ex F H F' (upd Hk' d u) := by
  have ne : ∀ a u', H a = some u' → a ≠ d → (upd H d (.frz od u)) a = some u' := fun a u' e z => by rw [upd_ne z]; exact e
  have hk : Hk' d = some (.frz od u) := st.kp d _ hx upd_same
  refine ⟨fun a u' w e => ?_, fun a e => ?_, st.fx, fun a e => ?_, fun a xs e => ?_, fun a v r => ?_⟩
  · by_cases z : a = d
    · subst z; rw [hd] at e; cases e; exact upd_same
    · rw [upd_ne z]; exact st.kp a u' w (ne a u' e z)
  · by_cases z : a = d
    · subst z; rw [upd_same]; exact fun y => nomatch y
    · rw [upd_ne z]
      exact st.kn a (by rw [upd_ne z]; exact e)
  · rcases st.nw a e with q | q
    · exact .inl q
    · right
      by_cases z : a = d
      · subst z
        rcases q with q | ⟨xs, q⟩ <;> (rw [upd_same] at q; cases q)
      · rcases q with q | ⟨xs, q⟩
        · exact .inl (by rw [upd_ne z] at q; exact q)
        · exact .inr ⟨xs, by rw [upd_ne z] at q; exact q⟩
  · by_cases z : a = d
    · subst z; rw [upd_same] at e; cases e; exact (du : False).elim
    · rw [upd_ne z] at e
      have q := st.kt a xs e
      rw [upd_ne z] at q
      exact q
  · by_cases z : a = d
    · subst z
      have hF : F' a = some u := by
        have n : F' a ≠ none := Rd.there r
        rcases st.nw a n with q | q
        · cases eF : F a with
          | none => exact absurd eF q
          | some w =>
            have e1 := st.fx a w eF
            rcases sb a w (.inl eF) with e2 | ⟨ob, e2, _⟩
            · rw [hd] at e2; cases e2; exact e1
            · rw [hd] at e2; cases e2; exact (du : False).elim
        · rcases q with q | ⟨xs, q⟩ <;> (rw [upd_same] at q; cases q)
      rcases r with r | ⟨ob, r, _⟩
      · rw [hF] at r; cases r; exact .inl upd_same
      · rw [hF] at r; cases r; exact (du : False).elim
    · rcases st.ok a v r with q | ⟨ob, q, nt⟩
      · exact .inl (by rw [upd_ne z]; exact q)
      · exact .inr ⟨ob, by rw [upd_ne z]; exact q, nt⟩
theorem ER.unlock {K : Frag} {wa : Option Addr} {o : Nat → Int} {F : Hp} {ρ : En} {σ : L2.St} {Hk : Hp} {n : Nat} {d : Addr} {od : Obj} {u : HO} (E : ER K wa o F ρ σ Hk n) (hk : Hk d = some (.frz od u)) (du : isDct u) (hw : wa ≠ some d) (sb : Sb F (upd Hk d u)) :
    ER K wa o F ρ σ (upd Hk d u) n := by
  refine ⟨sb, fun i s h => ?_, E.ap, ?_, E.len⟩
  · obtain ⟨v, h1, h2⟩ := E.sl i s h
    refine ⟨v, h1, ?_⟩
    cases s with
    | fr d => exact h2
    | ww => exact h2
    | ks _ =>
      obtain ⟨c, rfl, w, q⟩ := h2
      refine ⟨c, rfl, w, q.imp (fun ⟨o', q⟩ => ⟨o', ?_⟩) id⟩
      have z : c ≠ d := fun z => by rw [z, hk] at q; cases q; cases du
      rw [upd_ne z]; exact q
    | ol ds =>
      obtain ⟨c, xs, rfl, w, f, q, r⟩ := h2
      have z : c ≠ d := fun z => by rw [z, hk] at q; cases q
      exact ⟨c, xs, rfl, w, f, by rw [upd_ne z]; exact q, r⟩
    | od tk ps =>
      obtain ⟨c, o', rfl, w, f, q, r⟩ := h2
      refine ⟨c, o', rfl, w, f, ?_, r⟩
      by_cases z : c = d
      · subst z
        rcases q with q | ⟨ob, q, nt⟩
        · rw [hk] at q
          cases q
          cases tk with
          | false => obtain ⟨kvs, e, _⟩ := r; cases e
          | true => obtain ⟨kvs, e, _⟩ := r; cases e
        · rw [hk] at q
          cases q
          exact .inl upd_same
      · rcases q with q | ⟨ob, q, nt⟩
        · exact .inl (by rw [upd_ne z]; exact q)
        · exact .inr ⟨ob, by rw [upd_ne z]; exact q, nt⟩
  · have w := E.ww
    cases wa with
    | none => exact True.intro
    | some c =>
      obtain ⟨f, la, ds, q, r⟩ := w
      have z : c ≠ d := fun e => hw (by rw [e])
      exact ⟨f, la, ds, by rw [upd_ne z]; exact q, r⟩

/-! ## [e for tg in src if t] -/
def lcGo (g : DenG) (t e : Den) (ρw : En) : List D → Nat → Option (List D × Nat)
  | [], n => some ([], n)
  | d :: r, n => (g ρw d).bind fun ρ1 => (t ρ1 n).bind fun p => match p.1 with
    | .bool true => (e ρ1 p.2).bind fun q => (lcGo g t e ρw r q.2).map fun u => (q.1 :: u.1, u.2)
    | .bool false => lcGo g t e ρw r p.2
    | _ => none
def lcV (src : DenA) (g : DenG) (t e : Den) (vs : List Nat) : Den := fun ρ n => (src ρ n).bind fun p => if p.1.length ≤ LIM then (lcGo g t e (wipeE ρ vs) p.1 p.2).map fun q => (.list q.1, q.2) else none
theorem lcV_inv {src : DenA} {g : DenG} {t e : Den} {vs : List Nat} {ρ : En} {n n' : Nat} {d : D} (h : lcV src g t e vs ρ n = some (d, n')) : ∃ ds m ys, src ρ n = some (ds, m) ∧ ds.length ≤ LIM ∧ lcGo g t e (wipeE ρ vs) ds m = some (ys, n') ∧ d = .list ys := by
  unfold lcV at h
  cases e1 : src ρ n with
  | none => rw [e1] at h; cases h
  | some p =>
    rw [e1] at h
    simp only [Option.bind_some] at h
    split at h
    · rename_i hl
      cases e2 : lcGo g t e (wipeE ρ vs) p.1 p.2 with
      | none => rw [e2] at h; cases h
      | some q =>
        rw [e2] at h
        cases h
        exact ⟨p.1, p.2, q.1, rfl, hl, by rw [e2], rfl⟩
    · cases h
theorem lcGo_cons {g : DenG} {t e : Den} {ρw : En} {d : D} {r : List D} {n : Nat} {res : List D × Nat} (h : lcGo g t e ρw (d :: r) n = some res) :
    ∃ ρ1 b m, g ρw d = some ρ1 ∧ t ρ1 n = some (.bool b, m) ∧ (if b = true then ∃ y m2 ys, e ρ1 m = some (y, m2) ∧ lcGo g t e ρw r m2 = some (ys, res.2) ∧ res.1 = y :: ys else lcGo g t e ρw r m = some res) := by
  unfold lcGo at h
  cases e1 : g ρw d with
  | none => rw [e1] at h; cases h
  | some ρ1 =>
    rw [e1] at h
    simp only [Option.bind_some] at h
    cases e2 : t ρ1 n with
    | none => rw [e2] at h; cases h
    | some p =>
      rw [e2] at h
      obtain ⟨w, m⟩ := p
      simp only [Option.bind_some] at h
      cases w with
      | bool b =>
        refine ⟨ρ1, b, m, rfl, e2, ?_⟩
        cases b with
        | false => exact iteF h
        | true =>
          simp only at h
          cases e3 : e ρ1 m with
          | none => rw [e3] at h; cases h
          | some q =>
            rw [e3] at h
            simp only [Option.bind_some] at h
            cases e4 : lcGo g t e ρw r q.2 with
            | none => rw [e4] at h; cases h
            | some u =>
              rw [e4] at h
              cases h
              exact iteT ⟨q.1, q.2, u.1, rfl, e4, rfl⟩
      | _ => cases h
/-- slots of the block are never leaked things of the def -/
def inner (vs lk : List Nat) : List Nat := lk.filter fun i => !vs.contains i
theorem nl_inner {vs lk : List Nat} {ρ ρ1 : En} (h : nl (inner vs lk) ρ) (hv : ∀ i s, i ∈ vs → eget ρ1 i = some s → s.own = false) (hn : ∀ i, i ∉ vs → eget ρ1 i = eget ρ i) : nl lk ρ1 := fun i hi s e => by
  by_cases z : i ∈ vs
  · exact hv i s z e
  · refine h i ?_ s (by rw [← hn i z]; exact e)
    exact List.mem_filter.mpr ⟨hi, by simp [z]⟩
/-- what a target stores: nothing own, in its slots alone -/
def GOk (ts : List Nat) (g : DenG) : Prop := ∀ ρ d ρ', g ρ d = some ρ' → ρ'.length = ρ.length ∧ (∀ i, i ∉ ts → eget ρ' i = eget ρ i) ∧ ∀ i s, eget ρ' i = some s → s.own = true → eget ρ i = some s
def GsOk (ts : List Nat) (g : DenGs) : Prop := ∀ ρ d ρ', g ρ d = some ρ' → ρ'.length = ρ.length ∧ (∀ i, i ∉ ts → eget ρ' i = eget ρ i) ∧ ∀ i s, eget ρ' i = some s → s.own = true → eget ρ i = some s
theorem nameG_ok (i : Nat) : GOk [i] (nameG i) := fun ρ d ρ' h => by
  cases h
  refine ⟨eset_length, fun j hj => eget_eset_ne (fun e => hj (by rw [e]; exact List.mem_singleton.mpr rfl)), fun j s e o => ?_⟩
  by_cases z : i = j
  · subst z
    by_cases hl : i < ρ.length
    · rw [eget_eset_same hl] at e; cases e; cases o
    · rw [eset_none hl] at e; exact e
  · rw [eget_eset_ne z] at e; exact e
theorem nilG_ok : GsOk [] nilG := fun ρ d ρ' h => by
  cases d with
  | nil => cases h; exact ⟨rfl, fun _ _ => rfl, fun _ _ e _ => e⟩
  | cons _ _ => cases h
theorem consG_ok {ts us : List Nat} {g : DenG} {gs : DenGs} (h1 : GOk ts g) (h2 : GsOk us gs) : GsOk (ts ++ us) (consG g gs) := fun ρ d ρ' h => by
  cases d with
  | nil => cases h
  | cons d r =>
    have h' : (g ρ d).bind (fun ρ1 => gs ρ1 r) = some ρ' := h
    cases e : g ρ d with
    | none => rw [e] at h'; cases h'
    | some ρ1 =>
      rw [e] at h'
      obtain ⟨a1, a2, a3⟩ := h1 ρ d ρ1 e
      obtain ⟨b1, b2, b3⟩ := h2 ρ1 r ρ' h'
      exact ⟨b1.trans a1, fun i hi => (b2 i fun z => hi (List.mem_append_right _ z)).trans (a2 i fun z => hi (List.mem_append_left _ z)), fun i s e o => a3 i s (b3 i s e o) o⟩
theorem tupG_ok {ts : List Nat} {k : Nat} {gs : DenGs} (h : GsOk ts gs) : GOk ts (tupG k gs) := fun ρ d ρ' e => by
  unfold tupG at e
  split at e
  · split at e
    · exact h _ _ _ e
    · cases e
  · split at e
    · exact h _ _ _ e
    · cases e
  · cases e
theorem wipeE_get (ρ : En) : ∀ (vs : List Nat) (i : Nat), i ∈ vs → eget (wipeE ρ vs) i = none
  | v :: vs, i, h => by
    unfold wipeE
    by_cases e : v = i
    · subst e
      by_cases hl : v < (wipeE ρ vs).length
      · exact eget_eset_same hl
      · rw [eset_none hl]
        cases z : eget (wipeE ρ vs) v with
        | none => rfl
        | some s => exact absurd (eget_lt z) hl
    · rw [eget_eset_ne e]
      exact wipeE_get ρ vs i ((List.mem_cons.mp h).resolve_left fun z => e z.symm)
theorem wipeE_out (ρ : En) : ∀ (vs : List Nat) (i : Nat), i ∉ vs → eget (wipeE ρ vs) i = eget ρ i
  | [], _, _ => rfl
  | v :: vs, i, h => by
    unfold wipeE
    rw [eget_eset_ne (fun e => h (by rw [e]; exact List.mem_cons_self)), wipeE_out ρ vs i fun z => h (List.mem_cons_of_mem _ z)]
theorem nl_turn {vs lk ts : List Nat} {g : DenG} {ρ ρ1 : En} {d : D} (h : nl (inner vs lk) ρ) (hg : GOk ts g) (hs : ∀ i ∈ ts, i ∈ vs) (e : g (wipeE ρ vs) d = some ρ1) : nl lk ρ1 := by
  obtain ⟨_, a2, a3⟩ := hg _ _ _ e
  refine nl_inner h (fun i s hi es => ?_) fun i hi => ?_
  · cases o : s.own with
    | false => rfl
    | true =>
      have := a3 i s es o
      rw [wipeE_get ρ vs i hi] at this
      cases this
  · rw [a2 i fun z => hi (hs i z), wipeE_out ρ vs i hi]

section
variable {K : Frag} {wa : Option Addr} {o : Nat → Int}
theorem lc_rd {src : DenA} {g : DenG} {t e : Den} {vs ts la lt le : List Nat} {fz : Bool} {wi : TI} (hsrc : SrcRd K wa o la fz src wi) (hg : GOk ts g) (hs : ∀ i ∈ ts, i ∈ vs) {σ : L2.St} {H : Hp} {Q : VK}
    (q : tI K wa o (la ++ (inner vs lt ++ inner vs le)) (.own false) (lcV src g t e vs) σ H Q) :
    tLc wi (tG K wa o ts g) (tT K wa o lt t) (tI K wa o le .no e) vs σ H fun v H1 => UnlQ H (Q v) H1 := by
  obtain ⟨F, ρ, n, d, n', E, hl, hf, q⟩ := q
  obtain ⟨ds, m, ys, e1, hlen, e2, rfl⟩ := lcV_inv hf
  refine hsrc σ H _ F ρ n ds m E (nl_l hl) e1 fun J F1 H1 Hk A st1 E1 lck hA _ it => fun D hD => ?_
  have Ek : ER K wa o F1 ρ σ Hk m := E1.lock lck
  have nlt : nl (inner vs lt) ρ := nl_l (nl_r hl)
  have nle : nl (inner vs le) ρ := nl_r (nl_r hl)
  have hF1D : F1 D = none := Ek.sb.none hD
  have hwD : wa ≠ some D := fun z => by
    have w := Ek.ww
    subst z
    obtain ⟨_, la, ds, q, _⟩ := w
    rw [hD] at q; cases q
  have ownD : ∀ i s, eget ρ i = some s → s.own = true → σ[i]? ≠ some (some (.ref D)) := fun i s h ho z => by
    obtain ⟨v, q1, q2⟩ := Ek.sl i s h
    obtain ⟨b, rfl, _, _, q5⟩ := q2.there ho
    rw [q1] at z
    cases z
    exact q5 (.inl hD)
  have hAD : ∀ a, A a → a ≠ D := fun a ha z => (hA a ha).2.1 (z ▸ hD)
  -- the invariant: i items gone through, yr still to come
  refine ⟨fun i k Hc => i ≤ ds.length ∧ k = ds.length - i ∧ ∃ Fc nc acc accD yr, Stp (ExD wa D) F1 Hk Fc Hc ∧ Fc D = none ∧ Hc D = some (.lst acc) ∧ RDs K Fc acc accD ∧ accD.length ≤ i ∧ ER K wa o Fc ρ σ Hc nc ∧
    (∀ a, A a → Hc a = Hk a) ∧ lcGo g t e (wipeE ρ vs) (ds.drop i) nc = some (yr, n') ∧ accD ++ yr = ys, ⟨ds.length, Nat.zero_le _, rfl, F1, m, [], [], ys, (Stp.raw Ek.sb hD).mono (fun _ h => .inl h), hF1D, upd_same, .nil, Nat.zero_le _, ?_, ?_, ?_, rfl⟩, ?_⟩
  · exact Ek.step0 (.raw Ek.sb hD)
  · exact fun a ha => upd_ne (hAD a ha)
  · rw [List.drop_zero]; exact e2
  rintro i k Hc ⟨hi, rfl, Fc, nc, acc, accD, yr, stc, hFD, hHD, racc, hacc, Ec, hAc, hgo, hys⟩
  have pk : Pk F1 Hk A Fc Hc := ⟨stc.fx, hAc⟩
  by_cases hlt : i < ds.length
  · -- one more turn
    obtain ⟨hgo', hyl⟩ := it.item i Fc Hc Ec.sb pk hlt
    rw [List.drop_eq_getElem_cons hlt] at hgo
    obtain ⟨ρ1, b, m1, g1, t1, hb⟩ := lcGo_cons hgo
    refine .inr ⟨hgo', fun H' => i + 1 ≤ ds.length ∧ ∃ Fc nc acc accD yr, Stp (ExD wa D) F1 Hk Fc H' ∧ Fc D = none ∧ H' D = some (.lst acc) ∧ RDs K Fc acc accD ∧ accD.length ≤ i + 1 ∧ ER K wa o Fc ρ σ H' nc ∧
      (∀ a, A a → H' a = Hk a) ∧ lcGo g t e (wipeE ρ vs) (ds.drop (i + 1)) nc = some (yr, n') ∧ accD ++ yr = ys, fun H' hN => ⟨ds.length - (i + 1), by omega, hN.1, rfl, hN.2⟩, fun x H2 hy => ?_⟩
    obtain ⟨F2, st2, rx⟩ := hyl x H2 hy
    have E2 : ER K wa o F2 ρ σ H2 nc := Ec.step0 st2
    have eget : ds.getD i .none = ds[i] := by rw [List.getD_eq_getElem?_getD, List.getElem?_eq_getElem hlt] <;> rfl
    rw [eget] at rx
    refine ⟨F2, wipeE ρ vs, nc, ds[i], ρ1, E2.wipe vs, rx, g1, fun σ3 E3 o3 => ⟨wipe_of_out o3 hs, ?_⟩⟩
    have nl1 : nl lt ρ1 := nl_turn nlt hg hs g1
    have nl2 : nl le ρ1 := nl_turn nle hg hs g1
    refine ⟨F2, ρ1, nc, b, m1, E3, nl1, t1, fun F4 H4 st4 E4 => ?_⟩
    have D2 : H2 D = some (.lst acc) := st2.kp D _ (fun z => z) hHD
    have D4 : H4 D = some (.lst acc) := st4.kp D _ hwD D2
    have stc4 : Stp (ExD wa D) F1 Hk F4 H4 := (stc.trans st2.wa).trans (st4.mono fun _ h => .inl h)
    have nfD : ∀ {Ha Fa Fb Hb : Hp} {ex : Addr → Prop} {l : List V}, Stp ex Fa Ha Fb Hb → Fa D = none → Ha D = some (.lst l) → Fb D = none := fun st h1 h2 => st.fnone h1 (Fre.not (o := .lst _) (.inl h2) trivial)
    have F2D : F2 D = none := nfD st2 hFD hHD
    have F4D : F4 D = none := nfD st4 F2D D2
    have hA4 : ∀ a, A a → H4 a = Hk a := fun a ha => by
      have h1 := (hA a ha)
      have h2 := hAc a ha
      cases ek : Hk a with
      | none => exact absurd ek h1.2.1
      | some u => exact st4.kp a u h1.1 (st2.kp a u (fun z => z) (by rw [h2, ek]))
    have Eo4 : ER K wa o F4 ρ σ H4 m1 := E2.step st4 E4.ww
    cases b with
    | false =>
      refine iteF ⟨hlt, F4, m1, acc, accD, yr, stc4, F4D, D4, racc.mono (st2.sb.trans st4.sb), by omega, Eo4, hA4, hb, hys⟩
    | true =>
      obtain ⟨y, m2, ys2, h1, h2, h3⟩ := (show ∃ y m2 ys, e ρ1 m1 = some (y, m2) ∧ lcGo g t e (wipeE ρ vs) (ds.drop (i + 1)) m2 = some (ys, n') ∧ yr = y :: ys from hb)
      refine iteT ⟨F4, ρ1, m1, y, m2, E4, nl2, h1, fun v F5 H5 st5 E5 r5 => ?_⟩
      have D5 : H5 D = some (.lst acc) := st5.kp D _ hwD D4
      have F5D : F5 D = none := nfD st5 F4D D4
      have Eo5 : ER K wa o F5 ρ σ H5 m2 := Eo4.step st5 E5.ww
      have hl5 : acc.length = accD.length := racc.length
      refine ⟨acc, D5, ?_, hlt, F5, m2, acc ++ [v], accD ++ [y], ys2, ?_, F5D, upd_same, ?_, ?_, ?_, ?_, h2, ?_⟩
      · have : acc.length ≤ LIM := by omega
        have := LIM_le this
        rw [sizeLine_eq] at this ⊢
        unfold LIM at *
        omega
      · exact (stc4.trans (st5.mono fun _ h => .inl h)).trans (.turn E5.sb F5D D5 trivial (.inr rfl))
      · exact (racc.mono ((st2.sb.trans st4.sb).trans st5.sb)).append (.cons r5.1 .nil)
      · rw [List.length_append, List.length_singleton]; omega
      · exact Eo5.turn F5D D5 (fun _ _ z => nomatch z) hwD ownD
      · intro a ha
        rw [upd_ne (hAD a ha)]
        have h1 := hA a ha
        have h2 := hA4 a ha
        cases ek : Hk a with
        | none => exact absurd ek h1.2.1
        | some u => exact st5.kp a u h1.1 (by rw [h2, ek])
      · rw [List.append_assoc, ← hys, h3] <;> rfl
  · -- the end
    have hie : i = ds.length := by omega
    subst hie
    rw [List.drop_length] at hgo
    cases hgo
    rw [List.append_nil] at hys
    subst hys
    refine .inl ⟨it.done _ Fc Hc Ec.sb pk (Nat.le_refl _), ?_⟩
    -- D aside, a step from Hk
    have stk : Stp (Wx wa) F1 Hk Fc Hc := ⟨fun a u w h => stc.kp a u (fun z => z.elim w fun z => by rw [z, hD] at h; cases h) h, stc.kn, stc.fx, stc.nw, stc.kt, stc.ok⟩
    rcases lck with hk | ⟨d, od, u, hd, du, hw, hk⟩
    · subst hk
      refine .inl (q (.ref D) Fc Hc (st1.trans stk) Ec ⟨⟨D, acc, rfl, hwD, hFD, hHD, racc⟩, fun _ => ⟨D, rfl, ?_, _, hHD, fun _ _ z => nomatch z⟩⟩)
      cases z : H D with
      | none => rfl
      | some u => exact absurd hD (st1.kn D (by rw [z]; exact fun y => nomatch y))
    · subst hk
      have dD : D ≠ d := fun z => by rw [z, upd_same] at hD; cases hD
      have hD1 : H1 D = none := by rw [upd_ne dD] at hD; exact hD
      have hkd : Hc d = some (.frz od u) := stk.kp d _ hw upd_same
      have stu : Stp (Wx wa) F1 H1 Fc (upd Hc d u) := stk.unlock E1.sb hd du hw
      refine .inr ⟨d, od, u, hkd, fun o' u' z => ?_, q (.ref D) Fc (upd Hc d u) (st1.trans stu) (Ec.unlock hkd du hw stu.ok) ⟨⟨D, acc, rfl, hwD, hFD, by rw [upd_ne dD]; exact hHD, racc⟩, fun _ => ⟨D, rfl, ?_, .lst acc, (by rw [upd_ne dD]; exact hHD), (fun _ _ z => nomatch z)⟩⟩⟩
      · have := st1.kp d _ hw z
        rw [hd] at this
        cases this
        exact (du : False)
      · cases z : H D with
        | none => rfl
        | some u => exact absurd hD1 (st1.kn D (by rw [z]; exact fun y => nomatch y))
end
end WH

namespace WH
open PySem PySem.Spec PyProof.Rows L2

/-! ## [e for tg in src if t for tg1 in src1 if t1] -/
/-- a walk that locks nothing -/
def SrcRdN (K : Frag) (wa : Option Addr) (o : Nat → Int) (lk : List Nat) (f : DenA) (wi : TI) : Prop := ∀ σ H R F ρ n ds n', ER K wa o F ρ σ H n → nl lk ρ → f ρ n = some (ds, n') →
    (∀ J F1 H1, Stp (Wx wa) F H F1 H1 → ER K wa o F1 ρ σ H1 n' → IterOk K J ds (Pk F1 H1 fun _ => False) → R J H1) → wi σ H R
structure SRCN (X : Cx) (c : Dc) (tg iter : Expr) (lk : List Nat) (f : DenA) (wi : TI) : Prop where
  pi : PI X tg iter wi
  rd : SrcRdN X.K c.wa c.o lk f wi
  fs : ∀ env x, foldedSetIterable iter env x = pure x
def lc2Go (g : DenG) (t : Den) (src1 : DenA) (g1 : DenG) (t1 e : Den) (ρw : En) (vs1 : List Nat) : List D → Nat → Option (List D × Nat)
  | [], n => some ([], n)
  | d :: r, n => (g ρw d).bind fun ρ1 => (t ρ1 n).bind fun p => match p.1 with
    | .bool true => (src1 ρ1 p.2).bind fun s => (lcGo g1 t1 e (wipeE ρ1 vs1) s.1 s.2).bind fun q => (lc2Go g t src1 g1 t1 e ρw vs1 r q.2).map fun u => (q.1 ++ u.1, u.2)
    | .bool false => lc2Go g t src1 g1 t1 e ρw vs1 r p.2
    | _ => none
def lc2V (src : DenA) (g : DenG) (t : Den) (src1 : DenA) (g1 : DenG) (t1 e : Den) (vs vs1 : List Nat) : Den := fun ρ n => (src ρ n).bind fun p => (lc2Go g t src1 g1 t1 e (wipeE ρ vs) vs1 p.1 p.2).bind fun q => if q.1.length ≤ LIM then some (.list q.1, q.2) else none
theorem lc2V_inv {src src1 : DenA} {g g1 : DenG} {t t1 e : Den} {vs vs1 : List Nat} {ρ : En} {n n' : Nat} {d : D} (h : lc2V src g t src1 g1 t1 e vs vs1 ρ n = some (d, n')) :
    ∃ ds m ys, src ρ n = some (ds, m) ∧ lc2Go g t src1 g1 t1 e (wipeE ρ vs) vs1 ds m = some (ys, n') ∧ ys.length ≤ LIM ∧ d = .list ys := by
  unfold lc2V at h
  cases e1 : src ρ n with
  | none => rw [e1] at h; cases h
  | some p =>
    rw [e1] at h
    simp only [Option.bind_some] at h
    cases e2 : lc2Go g t src1 g1 t1 e (wipeE ρ vs) vs1 p.1 p.2 with
    | none => rw [e2] at h; cases h
    | some q =>
      rw [e2] at h
      simp only [Option.bind_some] at h
      split at h
      · rename_i hl
        cases h
        exact ⟨p.1, p.2, q.1, rfl, by rw [e2], hl, rfl⟩
      · cases h
theorem lc2Go_cons {src1 : DenA} {g g1 : DenG} {t t1 e : Den} {ρw : En} {vs1 : List Nat} {d : D} {r : List D} {n : Nat} {res : List D × Nat} (h : lc2Go g t src1 g1 t1 e ρw vs1 (d :: r) n = some res) :
    ∃ ρ1 b m, g ρw d = some ρ1 ∧ t ρ1 n = some (.bool b, m) ∧ (if b = true then ∃ ds1 m1 y1 m2 ys, src1 ρ1 m = some (ds1, m1) ∧ lcGo g1 t1 e (wipeE ρ1 vs1) ds1 m1 = some (y1, m2) ∧ lc2Go g t src1 g1 t1 e ρw vs1 r m2 = some (ys, res.2) ∧ res.1 = y1 ++ ys
      else lc2Go g t src1 g1 t1 e ρw vs1 r m = some res) := by
  unfold lc2Go at h
  cases e1 : g ρw d with
  | none => rw [e1] at h; cases h
  | some ρ1 =>
    rw [e1] at h
    simp only [Option.bind_some] at h
    cases e2 : t ρ1 n with
    | none => rw [e2] at h; cases h
    | some p =>
      rw [e2] at h
      obtain ⟨w, m⟩ := p
      simp only [Option.bind_some] at h
      cases w with
      | bool b =>
        refine ⟨ρ1, b, m, rfl, e2, ?_⟩
        cases b with
        | false => exact iteF h
        | true =>
          simp only at h
          cases e3 : src1 ρ1 m with
          | none => rw [e3] at h; cases h
          | some s =>
            rw [e3] at h
            simp only [Option.bind_some] at h
            cases e4 : lcGo g1 t1 e (wipeE ρ1 vs1) s.1 s.2 with
            | none => rw [e4] at h; cases h
            | some q =>
              rw [e4] at h
              simp only [Option.bind_some] at h
              cases e5 : lc2Go g t src1 g1 t1 e ρw vs1 r q.2 with
              | none => rw [e5] at h; cases h
              | some u =>
                rw [e5] at h
                cases h
                exact iteT ⟨s.1, s.2, q.1, q.2, u.1, rfl, e4, e5, rfl⟩
      | _ => cases h
/-- the block's environment: of the def's own things only those outside of vs -/
def Inn (vs : List Nat) (ρ ρ1 : En) : Prop := (∀ i s, i ∈ vs → eget ρ1 i = some s → s.own = false) ∧ ∀ i, i ∉ vs → eget ρ1 i = eget ρ i
theorem Inn.nl {vs lk : List Nat} {ρ ρ1 : En} (h : Inn vs ρ ρ1) (n : nl (inner vs lk) ρ) : nl lk ρ1 := nl_inner n h.1 h.2
theorem Inn.wipe {vs : List Nat} {ρ : En} : Inn vs ρ (wipeE ρ vs) := ⟨fun i s hi e => (by rw [wipeE_get ρ vs i hi] at e; cases e), fun i hi => wipeE_out ρ vs i hi⟩
theorem Inn.g {vs ts : List Nat} {g : DenG} {ρ ρ1 ρ2 : En} {d : D} (h : Inn vs ρ ρ1) (hg : GOk ts g) (hs : ∀ i ∈ ts, i ∈ vs) (e : g ρ1 d = some ρ2) : Inn vs ρ ρ2 := by
  obtain ⟨_, a2, a3⟩ := hg _ _ _ e
  refine ⟨fun i s hi es => ?_, fun i hi => (a2 i fun z => hi (hs i z)).trans (h.2 i hi)⟩
  cases o : s.own with
  | false => rfl
  | true =>
    have := h.1 i s hi (a3 i s es o)
    rw [o] at this
    cases this
theorem Inn.wipe2 {vs vs1 : List Nat} {ρ ρ1 : En} (h : Inn vs ρ ρ1) (hv : ∀ i ∈ vs1, i ∈ vs) : Inn vs ρ (wipeE ρ1 vs1) := by
  refine ⟨fun i s hi e => ?_, fun i hi => (wipeE_out ρ1 vs1 i fun z => hi (hv i z)).trans (h.2 i hi)⟩
  by_cases z : i ∈ vs1
  · rw [wipeE_get ρ1 vs1 i z] at e; cases e
  · rw [wipeE_out ρ1 vs1 i z] at e; exact h.1 i s hi e
section
variable {K : Frag} {wa : Option Addr} {o : Nat → Int}
theorem lc2_rd {src src1 : DenA} {g g1 : DenG} {t t1 e : Den} {vs vs1 ts ts1 la lt l1 lt1 le : List Nat} {fz : Bool} {wi wi1 : TI} (hsrc : SrcRd K wa o la fz src wi) (hsrc1 : SrcRdN K wa o l1 src1 wi1) (hg : GOk ts g) (hg1 : GOk ts1 g1) (hs : ∀ i ∈ ts, i ∈ vs)
    (hs1 : ∀ i ∈ ts1, i ∈ vs1) (hv : ∀ i ∈ vs1, i ∈ vs) {σ : L2.St} {H : Hp} {Q : VK}
    (q : tI K wa o (la ++ (inner vs lt ++ (inner vs l1 ++ (inner vs lt1 ++ inner vs le)))) (.own false) (lc2V src g t src1 g1 t1 e vs vs1) σ H Q) :
    tLc2 wi (tG K wa o ts g) (tT K wa o lt t) wi1 (tG K wa o ts1 g1) (tT K wa o lt1 t1) (tI K wa o le .no e) vs vs1 σ H fun v H1 => UnlQ H (Q v) H1 := by
  obtain ⟨F, ρ, n, d, n', E, hl, hf, q⟩ := q
  obtain ⟨ds, m, ys, e1, e2, hlen, rfl⟩ := lc2V_inv hf
  refine hsrc σ H _ F ρ n ds m E (nl_l hl) e1 fun J F1 H1 Hk A st1 E1 lck hA _ it => fun D hD => ?_
  have Ek : ER K wa o F1 ρ σ Hk m := E1.lock lck
  have nlt : nl (inner vs lt) ρ := nl_l (nl_r hl)
  have nl1 : nl (inner vs l1) ρ := nl_l (nl_r (nl_r hl))
  have nlt1 : nl (inner vs lt1) ρ := nl_l (nl_r (nl_r (nl_r hl)))
  have nle : nl (inner vs le) ρ := nl_r (nl_r (nl_r (nl_r hl)))
  have hF1D : F1 D = none := Ek.sb.none hD
  have hwD : wa ≠ some D := fun z => by
    have w := Ek.ww
    subst z
    obtain ⟨_, la, ds, q, _⟩ := w
    rw [hD] at q; cases q
  have ownD : ∀ i s, eget ρ i = some s → s.own = true → σ[i]? ≠ some (some (.ref D)) := fun i s h ho z => by
    obtain ⟨v, q1, q2⟩ := Ek.sl i s h
    obtain ⟨b, rfl, _, _, q5⟩ := q2.there ho
    rw [q1] at z
    cases z
    exact q5 (.inl hD)
  have hAD : ∀ a, A a → a ≠ D := fun a ha z => (hA a ha).2.1 (z ▸ hD)
  have nfD : ∀ {Ha Fa Fb Hb : Hp} {ex : Addr → Prop} {l : List V}, Stp ex Fa Ha Fb Hb → Fa D = none → Ha D = some (.lst l) → Fb D = none := fun st h1 h2 => st.fnone h1 (Fre.not (o := .lst _) (.inl h2) trivial)
  have keepA : ∀ {B : Addr → Prop} {Hb Hx Hy Fx Fy : Hp}, (∀ a, B a → wa ≠ some a ∧ Hb a ≠ none) → Stp (Wx wa) Fx Hx Fy Hy → (∀ a, B a → Hx a = Hb a) → ∀ a, B a → Hy a = Hb a := fun {B Hb Hx Hy Fx Fy} hB st hx a ha => by
    have h1 := hB a ha
    have h2 := hx a ha
    cases ek : Hb a with
    | none => exact absurd ek h1.2
    | some u => exact st.kp a u h1.1 (by rw [h2, ek])
  have hA' : ∀ a, A a → wa ≠ some a ∧ Hk a ≠ none := fun a ha => ⟨(hA a ha).1, (hA a ha).2.1⟩
  refine ⟨fun i k Hc => i ≤ ds.length ∧ k = ds.length - i ∧ ∃ Fc nc acc accD yr, Stp (ExD wa D) F1 Hk Fc Hc ∧ Fc D = none ∧ Hc D = some (.lst acc) ∧ RDs K Fc acc accD ∧ ER K wa o Fc ρ σ Hc nc ∧
    (∀ a, A a → Hc a = Hk a) ∧ lc2Go g t src1 g1 t1 e (wipeE ρ vs) vs1 (ds.drop i) nc = some (yr, n') ∧ accD ++ yr = ys, ⟨ds.length, Nat.zero_le _, rfl, F1, m, [], [], ys, (Stp.raw Ek.sb hD).mono (fun _ h => .inl h), hF1D, upd_same, .nil, ?_, ?_, ?_, rfl⟩, ?_⟩
  · exact Ek.step0 (.raw Ek.sb hD)
  · exact fun a ha => upd_ne (hAD a ha)
  · rw [List.drop_zero]; exact e2
  rintro i k Hc ⟨hi, rfl, Fc, nc, acc, accD, yr, stc, hFD, hHD, racc, Ec, hAc, hgo, hys⟩
  have pk : Pk F1 Hk A Fc Hc := ⟨stc.fx, hAc⟩
  by_cases hlt : i < ds.length
  · obtain ⟨hgo', hyl⟩ := it.item i Fc Hc Ec.sb pk hlt
    rw [List.drop_eq_getElem_cons hlt] at hgo
    obtain ⟨ρ1, b, m1, g1e, t1e, hb⟩ := lc2Go_cons hgo
    refine .inr ⟨hgo', fun H' => i + 1 ≤ ds.length ∧ ∃ Fc nc acc accD yr, Stp (ExD wa D) F1 Hk Fc H' ∧ Fc D = none ∧ H' D = some (.lst acc) ∧ RDs K Fc acc accD ∧ ER K wa o Fc ρ σ H' nc ∧
      (∀ a, A a → H' a = Hk a) ∧ lc2Go g t src1 g1 t1 e (wipeE ρ vs) vs1 (ds.drop (i + 1)) nc = some (yr, n') ∧ accD ++ yr = ys, fun H' hN => ⟨ds.length - (i + 1), by omega, hN.1, rfl, hN.2⟩, fun x H2 hy => ?_⟩
    obtain ⟨F2, st2, rx⟩ := hyl x H2 hy
    have E2 : ER K wa o F2 ρ σ H2 nc := Ec.step0 st2
    have eget' : ds.getD i .none = ds[i] := by rw [List.getD_eq_getElem?_getD, List.getElem?_eq_getElem hlt] <;> rfl
    rw [eget'] at rx
    refine ⟨F2, wipeE ρ vs, nc, ds[i], ρ1, E2.wipe vs, rx, g1e, fun σ3 E3 o3 => ⟨wipe_of_out o3 hs, ?_⟩⟩
    have inn1 : Inn vs ρ ρ1 := Inn.wipe.g hg hs g1e
    refine ⟨F2, ρ1, nc, b, m1, E3, inn1.nl nlt, t1e, fun F4 H4 st4 E4 => ?_⟩
    have D2 : H2 D = some (.lst acc) := st2.kp D _ (fun z => z) hHD
    have D4 : H4 D = some (.lst acc) := st4.kp D _ hwD D2
    have stc4 : Stp (ExD wa D) F1 Hk F4 H4 := (stc.trans st2.wa).trans (st4.mono fun _ h => .inl h)
    have F2D : F2 D = none := nfD st2 hFD hHD
    have F4D : F4 D = none := nfD st4 F2D D2
    have hA4 : ∀ a, A a → H4 a = Hk a := keepA hA' st4 (keepA hA' st2.wa hAc)
    have Eo4 : ER K wa o F4 ρ σ H4 m1 := E2.step st4 E4.ww
    have racc4 : RDs K F4 acc accD := racc.mono (st2.sb.trans st4.sb)
    cases b with
    | false => exact iteF ⟨hlt, F4, m1, acc, accD, yr, stc4, F4D, D4, racc4, Eo4, hA4, hb, hys⟩
    | true =>
      obtain ⟨ds1, m2, y1, m3, ys2, h1, h2, h3, h4⟩ := (show ∃ ds1 m2 y1 m3 ys2, src1 ρ1 m1 = some (ds1, m2) ∧ lcGo g1 t1 e (wipeE ρ1 vs1) ds1 m2 = some (y1, m3) ∧ lc2Go g t src1 g1 t1 e (wipeE ρ vs) vs1 (ds.drop (i + 1)) m3 = some (ys2, n') ∧ yr = y1 ++ ys2 from hb)
      refine iteT (hsrc1 σ3 H4 _ F4 ρ1 m1 ds1 m2 E4 (inn1.nl nl1) h1 fun J1 F5 H5 st5 E5 it1 => ?_)
      have D5 : H5 D = some (.lst acc) := st5.kp D _ hwD D4
      have F5D : F5 D = none := nfD st5 F4D D4
      have Eo5 : ER K wa o F5 ρ σ H5 m2 := Eo4.step st5 E5.ww
      have own3 : ∀ {ρx : En} {σx : L2.St} {Fx Hx : Hp} {nx : Nat}, ER K wa o Fx ρx σx Hx nx → Hx D = none → True := fun _ _ => trivial
      have ownD3 : ∀ i s, eget ρ1 i = some s → s.own = true → σ3[i]? ≠ some (some (.ref D)) := fun i s h ho z => by
        by_cases hi : i ∈ vs
        · have := inn1.1 i s hi h
          rw [ho] at this
          cases this
        · have h' := inn1.2 i hi
          rw [h] at h'
          have q1 := o3.2 i fun z => hi (hs i z)
          rw [wipe_out hi] at q1
          rw [q1] at z
          exact ownD i s h'.symm ho z
      -- the inner loop
      refine ⟨fun j k Hc => j ≤ ds1.length ∧ k = ds1.length - j ∧ ∃ Fc nc acc accD yr, Stp (ExD wa D) F1 Hk Fc Hc ∧ Fc D = none ∧ Hc D = some (.lst acc) ∧ RDs K Fc acc accD ∧ ER K wa o Fc ρ σ Hc nc ∧ ER K wa o Fc ρ1 σ3 Hc nc ∧ (∀ a u, F5 a = some u → Fc a = some u) ∧
        (∀ a, A a → Hc a = Hk a) ∧ lcGo g1 t1 e (wipeE ρ1 vs1) (ds1.drop j) nc = some (yr, m3) ∧ accD ++ (yr ++ ys2) = ys,
        ⟨ds1.length, Nat.zero_le _, rfl, F5, m2, acc, accD, y1, stc4.trans (st5.mono fun _ h => .inl h), F5D, D5, racc4.mono st5.sb, Eo5, E5, fun _ _ h => h, keepA hA' st5 hA4, ?_, ?_⟩, ?_⟩
      · rw [List.drop_zero]; exact h2
      · rw [← hys, h4]
      rintro j k Hj ⟨hj, rfl, Fj, nj, accj, accDj, yrj, stj, hFDj, hHDj, raccj, Ej, Ej3, hfxj, hAj, hgoj, hysj⟩
      have pk1 : Pk F5 H5 (fun _ => False) Fj Hj := ⟨hfxj, fun a ha => ha.elim⟩
      by_cases hltj : j < ds1.length
      · obtain ⟨hgoj', hylj⟩ := it1.item j Fj Hj Ej.sb pk1 hltj
        rw [List.drop_eq_getElem_cons hltj] at hgoj
        obtain ⟨ρ2, b2, m4, g2e, t2e, hb2⟩ := lcGo_cons hgoj
        refine .inr ⟨hgoj', fun H' => j + 1 ≤ ds1.length ∧ ∃ Fc nc acc accD yr, Stp (ExD wa D) F1 Hk Fc H' ∧ Fc D = none ∧ H' D = some (.lst acc) ∧ RDs K Fc acc accD ∧ ER K wa o Fc ρ σ H' nc ∧ ER K wa o Fc ρ1 σ3 H' nc ∧ (∀ a u, F5 a = some u → Fc a = some u) ∧
          (∀ a, A a → H' a = Hk a) ∧ lcGo g1 t1 e (wipeE ρ1 vs1) (ds1.drop (j + 1)) nc = some (yr, m3) ∧ accD ++ (yr ++ ys2) = ys, fun H' hN => ⟨ds1.length - (j + 1), by omega, hN.1, rfl, hN.2⟩, fun x H6 hy => ?_⟩
        obtain ⟨F6, st6, rx6⟩ := hylj x H6 hy
        have E6 : ER K wa o F6 ρ σ H6 nj := Ej.step0 st6
        have E63 : ER K wa o F6 ρ1 σ3 H6 nj := Ej3.step0 st6
        have eget6 : ds1.getD j .none = ds1[j] := by rw [List.getD_eq_getElem?_getD, List.getElem?_eq_getElem hltj] <;> rfl
        rw [eget6] at rx6
        have inn2 : Inn vs ρ ρ2 := (inn1.wipe2 hv).g hg1 (fun i hi => hv i (hs1 i hi)) g2e
        refine ⟨F6, wipeE ρ1 vs1, nj, ds1[j], ρ2, E63.wipe vs1, rx6, g2e, fun σ4 E4' o4 => ⟨wipe_of_out o4 hs1, ?_⟩⟩
        refine ⟨F6, ρ2, nj, b2, m4, E4', inn2.nl nlt1, t2e, fun F7 H7 st7 E7 => ?_⟩
        have D6 : H6 D = some (.lst accj) := st6.kp D _ (fun z => z) hHDj
        have D7 : H7 D = some (.lst accj) := st7.kp D _ hwD D6
        have F6D : F6 D = none := nfD st6 hFDj hHDj
        have F7D : F7 D = none := nfD st7 F6D D6
        have st17 : Stp (ExD wa D) F1 Hk F7 H7 := (stj.trans st6.wa).trans (st7.mono fun _ h => .inl h)
        have hA7 : ∀ a, A a → H7 a = Hk a := keepA hA' st7 (keepA hA' st6.wa hAj)
        have Eo7 : ER K wa o F7 ρ σ H7 m4 := E6.step st7 E7.ww
        have E73 : ER K wa o F7 ρ1 σ3 H7 m4 := E63.step st7 E7.ww
        have racc7 : RDs K F7 accj accDj := raccj.mono (st6.sb.trans st7.sb)
        have hfx7 : ∀ a u, F5 a = some u → F7 a = some u := fun a u h => st7.fx a u (st6.fx a u (hfxj a u h))
        cases b2 with
        | false => exact iteF ⟨hltj, F7, m4, accj, accDj, yrj, st17, F7D, D7, racc7, Eo7, E73, hfx7, hA7, hb2, hysj⟩
        | true =>
          obtain ⟨y, m5, ys3, k1, k2, k3⟩ := (show ∃ y m2 ys, e ρ2 m4 = some (y, m2) ∧ lcGo g1 t1 e (wipeE ρ1 vs1) (ds1.drop (j + 1)) m2 = some (ys, m3) ∧ yrj = y :: ys from hb2)
          refine iteT ⟨F7, ρ2, m4, y, m5, E7, inn2.nl nle, k1, fun v F8 H8 st8 E8 r8 => ?_⟩
          have D8 : H8 D = some (.lst accj) := st8.kp D _ hwD D7
          have F8D : F8 D = none := nfD st8 F7D D7
          have Eo8 : ER K wa o F8 ρ σ H8 m5 := Eo7.step st8 E8.ww
          have E83 : ER K wa o F8 ρ1 σ3 H8 m5 := E73.step st8 E8.ww
          have hl8 : accj.length = accDj.length := raccj.length
          have hl9 : accDj.length + 1 ≤ ys.length := by
            rw [← hysj, k3]
            simp only [List.length_append, List.length_cons]
            omega
          refine ⟨accj, D8, ?_, hltj, F8, m5, accj ++ [v], accDj ++ [y], ys3, ?_, F8D, upd_same, ?_, ?_, ?_, ?_, ?_, k2, ?_⟩
          · have h9 : accj.length + 1 ≤ LIM := by omega
            have := LIM_le h9
            rw [sizeLine_eq] at this ⊢
            unfold LIM at *
            omega
          · exact (st17.trans (st8.mono fun _ h => .inl h)).trans (.turn E8.sb F8D D8 trivial (.inr rfl))
          · exact (racc7.mono st8.sb).append (.cons r8.1 .nil)
          · exact Eo8.turn F8D D8 (fun _ _ z => nomatch z) hwD ownD
          · exact E83.turn F8D D8 (fun _ _ z => nomatch z) hwD ownD3
          · exact fun a u h => st8.fx a u (hfx7 a u h)
          · intro a ha
            rw [upd_ne (hAD a ha)]
            exact keepA hA' st8 hA7 a ha
          · rw [List.append_assoc, ← hysj, k3] <;> rfl
      · have hje : j = ds1.length := by omega
        subst hje
        rw [List.drop_length] at hgoj
        cases hgoj
        refine .inl ⟨it1.done _ Fj Hj Ej.sb pk1 (Nat.le_refl _), hlt, Fj, m3, accj, accDj, ys2, stj, hFDj, hHDj, raccj, Ej, hAj, h3, hysj⟩
  · have hie : i = ds.length := by omega
    subst hie
    rw [List.drop_length] at hgo
    cases hgo
    rw [List.append_nil] at hys
    subst hys
    refine .inl ⟨it.done _ Fc Hc Ec.sb pk (Nat.le_refl _), ?_⟩
    have stk : Stp (Wx wa) F1 Hk Fc Hc := ⟨fun a u w h => stc.kp a u (fun z => z.elim w fun z => by rw [z, hD] at h; cases h) h, stc.kn, stc.fx, stc.nw, stc.kt, stc.ok⟩
    rcases lck with hk | ⟨d, od, u, hd, du, hw, hk⟩
    · subst hk
      refine .inl (q (.ref D) Fc Hc (st1.trans stk) Ec ⟨⟨D, acc, rfl, hwD, hFD, hHD, racc⟩, fun _ => ⟨D, rfl, ?_, _, hHD, fun _ _ z => nomatch z⟩⟩)
      cases z : H D with
      | none => rfl
      | some u => exact absurd hD (st1.kn D (by rw [z]; exact fun y => nomatch y))
    · subst hk
      have dD : D ≠ d := fun z => by rw [z, upd_same] at hD; cases hD
      have hD1 : H1 D = none := by rw [upd_ne dD] at hD; exact hD
      have hkd : Hc d = some (.frz od u) := stk.kp d _ hw upd_same
      have stu : Stp (Wx wa) F1 H1 Fc (upd Hc d u) := stk.unlock E1.sb hd du hw
      refine .inr ⟨d, od, u, hkd, fun o' u' z => ?_, q (.ref D) Fc (upd Hc d u) (st1.trans stu) (Ec.unlock hkd du hw stu.ok) ⟨⟨D, acc, rfl, hwD, hFD, by rw [upd_ne dD]; exact hHD, racc⟩, fun _ => ⟨D, rfl, ?_, .lst acc, (by rw [upd_ne dD]; exact hHD), (fun _ _ z => nomatch z)⟩⟩⟩
      · have := st1.kp d _ hw z
        rw [hd] at this
        cases this
        exact (du : False)
      · cases z : H D with
        | none => rfl
        | some u => exact absurd hD1 (st1.kn D (by rw [z]; exact fun y => nomatch y))
end
end WH

namespace WH
open PySem PySem.Spec PyProof.Rows L2

/-! ## walks that lock nothing -/
def itemsN : D → Option (List D)
  | .list ds => some ds
  | .tuple ds => some ds
  | .str z => some (signs z)
  | _ => none
def anyN (f : Den) : DenA := fun ρ n => (f ρ n).bind fun p => (itemsN p.1).map (·, p.2)
theorem anyN_inv {f : Den} {ρ : En} {n n' : Nat} {ds : List D} (e : anyN f ρ n = some (ds, n')) : ∃ s, f ρ n = some (s, n') ∧ itemsN s = some ds := by
  unfold anyN at e
  cases ef : f ρ n with
  | none => rw [ef] at e; cases e
  | some p =>
    rw [ef] at e
    simp only [Option.bind_some] at e
    cases e1 : itemsN p.1 with
    | none => rw [e1] at e; cases e
    | some x =>
      rw [e1] at e
      cases e
      exact ⟨p.1, by rw [← ef], e1⟩
section
variable {X : Cx} {c : Dc} {tg e : Expr} {la : List Nat}
def wiN (K : Frag) (te : TE) : TI := fun σ H R => te σ H fun x H1 => IA K R x H1
theorem SRCN_fz {g : Den} (he : EX X c e la .no g) (hs : ∀ env x, foldedSetIterable e env x = pure x) : SRCN X c tg e la (anyN g) (wiN X.K (tI X.K c.wa c.o la .no g)) := by
  refine ⟨pi_any he.run, fun σ H R F ρ n ds n' E hl hf hR => ?_, hs⟩
  obtain ⟨d, e1, e2⟩ := anyN_inv hf
  refine ⟨F, ρ, n, d, n', E, hl, e1, fun v F1 H1 st1 E1 r1 => ?_⟩
  have r : RD X.K F1 v d := r1.1
  have sb := E1.sb
  cases d with
  | list ds' =>
    cases e2
    cases r with
    | lst q r => exact .inl ⟨_, _, rfl, .inl (sb _ _ q).rd, hR _ F1 H1 st1 E1 (it_list fun F H sb p => ⟨_, .inl (sb _ _ (sb_of p.1 _ _ q)).rd, r.mono (sb_of p.1)⟩)⟩
  | tuple ds' =>
    cases e2
    cases r with
    | tup q r => exact .inr (.inl ⟨_, _, rfl, .of (sb _ _ (.inl q)).tup, hR _ F1 H1 st1 E1 (it_tup fun F H sb p => ⟨_, .of (sb _ _ (.inl (p.1 _ _ q))).tup, r.mono (sb_of p.1)⟩)⟩)
  | str z =>
    cases e2
    cases r
    exact .inr (.inr (.inl ⟨z, rfl, hR _ F1 H1 st1 E1 it_signs⟩))
  | _ => cases e2
theorem SRCN_of {tg iter : Expr} {lk : List Nat} {f : DenA} {wi : TI} (h : SRC X c tg iter lk true f wi) (hA : ∀ σ H R F ρ n ds n', ER X.K c.wa c.o F ρ σ H n → nl lk ρ → f ρ n = some (ds, n') →
    (∀ J F1 H1, Stp (Wx c.wa) F H F1 H1 → ER X.K c.wa c.o F1 ρ σ H1 n' → IterOk X.K J ds (Pk F1 H1 fun _ => False) → R J H1) → wi σ H R) : SRCN X c tg iter lk f wi := ⟨h.pi, hA, h.fs⟩
theorem SRCN_rng1 {f : DenB} {p pos : Pos} (hg : Gl X "range") (hm : X.mg "range" = none) (ha : EAB X c [e] la (consB f nilB)) (hs : starEach [e] X.env = [(false, eval e X.env)]) : SRCN X c tg (.Call (.Name "range" p) [e] [] pos) la (rng1S f) (iRng1 (tAB X.K c.wa c.o la (consB f nilB))) := by
  refine ⟨pi_range1 hg hm ha.run hs, fun σ H R F ρ n ds n' E hl hf hR => ?_, fun _ _ => rfl⟩
  · skip
    unfold rng1S at hf
    cases ef : f ρ n with
    | none => rw [ef] at hf; cases hf
    | some p =>
      rw [ef] at hf
      obtain ⟨s, m⟩ := p
      simp only [Option.bind_some] at hf
      cases s with
      | fr d =>
        cases d with
        | int j =>
          simp only at hf
          split at hf
          · rename_i hz
            simp only [Bool.and_eq_true, decide_eq_true_eq] at hz
            cases hf
            refine ⟨F, ρ, n, [.fr (.int j)], n', E, hl, by unfold consB nilB; rw [ef] <;> rfl, fun vs F1 H1 st1 E1 r1 => ?_⟩
            cases r1 with
            | cons r1 r2 =>
              cases r2
              cases (show RD X.K F1 _ (.int j) from r1)
              exact ⟨j, rfl, by omega, by omega, hR _ F1 H1 st1 E1 it_range⟩
          · cases hf
        | _ => cases hf
      | _ => cases hf
theorem SRCN_rng2 {f : DenB} {b : Expr} {g : DenB} {p pos : Pos} (hg : Gl X "range") (hm : X.mg "range" = none) (ha : EAB X c [e, b] la (consB f (consB g nilB))) (hs : starEach [e, b] X.env = [(false, eval e X.env), (false, eval b X.env)]) (hs2 : starEach [b] X.env = [(false, eval b X.env)]) :
    SRCN X c tg (.Call (.Name "range" p) [e, b] [] pos) la (rng2S f g) (iRng2 (tAB X.K c.wa c.o la (consB f (consB g nilB)))) := by
  refine ⟨pi_range2 hg hm ha.run hs hs2, fun σ H R F ρ n ds n' E hl hf hR => ?_, fun _ _ => rfl⟩
  · skip
    unfold rng2S at hf
    cases ef : f ρ n with
    | none => rw [ef] at hf; cases hf
    | some p =>
      rw [ef] at hf
      obtain ⟨s, m⟩ := p
      simp only [Option.bind_some] at hf
      cases eg : g ρ m with
      | none => rw [eg] at hf; cases hf
      | some q =>
        rw [eg] at hf
        obtain ⟨t, m2⟩ := q
        simp only [Option.bind_some] at hf
        split at hf
        · rename_i i j
          split at hf
          · rename_i hz
            simp only [Bool.and_eq_true, decide_eq_true_eq] at hz
            cases hf
            refine ⟨F, ρ, n, [.fr (.int i), .fr (.int j)], n', E, hl, by unfold consB nilB; rw [ef]; simp only [Option.bind_some]; rw [eg] <;> rfl, fun vs F1 H1 st1 E1 r1 => ?_⟩
            cases r1 with
            | cons r1 r2 =>
              cases r2 with
              | cons r2 r3 =>
                cases r3
                cases (show RD X.K F1 _ (.int i) from r1)
                cases (show RD X.K F1 _ (.int j) from r2)
                exact ⟨i, j, rfl, by omega, hR _ F1 H1 st1 E1 it_range⟩
          · cases hf
        · cases hf
end

/-! ## comprehensions as values, and stored -/
/-- name = e -/
def tSetN (K : Frag) (wa : Option Addr) (o : Nat → Int) (i : Nat) (lk : List Nat) (fr : Fr) (f : Den) : TS := fun D σ H => tI K wa o lk fr f σ H fun x H1 => D.nx (σ.set i (some x)) H1
structure EN (X : Cx) (c : Dc) (st : Stmt) (i : Nat) (lk : List Nat) (fr : Fr) (f : Den) : Prop where
  run : PS X st (tSetN X.K c.wa c.o i lk fr f)
theorem ps_weak {X : Cx} {st : Stmt} {t t' : TS} (h : PS X st t) (w : ∀ D σ H, t' D σ H → t D σ H) : PS X st t' := ⟨fun pins s σ H D I q => h.run pins s σ H D I (w D σ H q)⟩
section
variable {X : Cx} {c : Dc} {elt tg iter tg1 iter1 : Expr} {ifs ifs1 : List Expr} {scope : Scope} {own : List (Str × Nat)} {pos spos py pos' : Pos} {src src1 : DenA} {g g1 : DenG} {t t1 e : Den} {ts vs1 ts1 la lt l1 lt1 le : List Nat} {fz : Bool} {wi wi1 : TI} {i : Nat} {y x : Str}
theorem EN_set {e : Expr} {lk : List Nat} {fr : Fr} {f : Den} (hN : X.N.Nodup) (hi : X.N[i]? = some x) (hx : Loc X.env.scope x) (he : EX X c e lk fr f) (hs : swapsWith e (some (.Name x pos')) pos.line X.env = pure false) (hf : X.fn x = true ∨ X.env.scope.names.lookup x = some .local) :
    EN X c (.Assign [.Name x pos'] e pos) i lk fr f := ⟨ps_weak (ps_set hN hi hx he.run hs hf) fun D σ H q => q⟩
abbrev BlkEG (X : Cx) (c : Dc) (scope : Scope) (tg : Expr) (ts : List Nat) (g : DenG) : Prop := ∀ (s : Shared) (H : Hp) (C : Addr) (cl : List (Str × Addr)) (fp : List Addr), EG (X.blk s H scope (compEnvC scope cl C X.env) fp) c tg ts g
abbrev BlkET (X : Cx) (c : Dc) (scope : Scope) (ifs : List Expr) (lt : List Nat) (t : Den) : Prop := ∀ (s : Shared) (H : Hp) (C : Addr) (cl : List (Str × Addr)) (fp : List Addr), ETs (X.blk s H scope (compEnvC scope cl C X.env) fp) c ifs lt t
abbrev BlkEX (X : Cx) (c : Dc) (scope : Scope) (elt : Expr) (le : List Nat) (e : Den) : Prop := ∀ (s : Shared) (H : Hp) (C : Addr) (cl : List (Str × Addr)) (fp : List Addr), EX (X.blk s H scope (compEnvC scope cl C X.env) fp) c elt le .no e
abbrev BlkSRCN (X : Cx) (c : Dc) (scope : Scope) (tg iter : Expr) (la : List Nat) (src : DenA) (wi : TI) : Prop := ∀ (s : Shared) (H : Hp) (C : Addr) (cl : List (Str × Addr)) (fp : List Addr), SRCN (X.blk s H scope (compEnvC scope cl C X.env) fp) c tg iter la src wi
theorem EX_lc (hc : X.calm = true) (hN : X.N.Nodup) (hi : SRC X c tg iter la fz src wi) (ok : BlkOk X.N X.env.scope scope own) (hg : BlkEG X c scope tg ts g) (ht : BlkET X c scope ifs lt t) (he : BlkEX X c scope elt le e) (hgo : GOk ts g) (hs : ∀ i ∈ ts, i ∈ own.map (·.2)) :
    EX X c (.ListComp elt [⟨tg, iter, ifs, 0⟩] scope pos) (la ++ (inner (own.map (·.2)) lt ++ inner (own.map (·.2)) le)) (.own false) (lcV src g t e (own.map (·.2))) :=
  ⟨pe_weak (pe_unl (pe_lc hc hN hi.pi ok (fun s H C cl fp => (hg s H C cl fp).run) (fun s H C cl fp => (ht s H C cl fp).run) (fun s H C cl fp => (he s H C cl fp).run) (hi.fs X.env))) fun σ H Q q => lc_rd hi.rd hgo hs q⟩
theorem EN_lc (hc : X.calm = true) (hN : X.N.Nodup) (hy : X.N[i]? = some y) (hyl : X.env.scope.names.lookup y = some .local) (hsw : swapsWith (.ListComp elt [⟨tg, iter, ifs, 0⟩] scope pos) (some (.Name y py)) spos.line X.env = pure true)
    (hi : SRC X c tg iter la fz src wi) (ok : BlkOk X.N X.env.scope scope own) (hg : BlkEG X c scope tg ts g) (ht : BlkET X c scope ifs lt t) (he : BlkEX X c scope elt le e) (hgo : GOk ts g) (hs : ∀ i ∈ ts, i ∈ own.map (·.2)) :
    EN X c (.Assign [.Name y py] (.ListComp elt [⟨tg, iter, ifs, 0⟩] scope pos) spos) i (la ++ (inner (own.map (·.2)) lt ++ inner (own.map (·.2)) le)) (.own false) (lcV src g t e (own.map (·.2))) :=
  ⟨ps_weak (ps_unl (ps_setLc hc hN hy hyl hsw hi.pi ok (fun s H C cl fp => (hg s H C cl fp).run) (fun s H C cl fp => (ht s H C cl fp).run) (fun s H C cl fp => (he s H C cl fp).run) (hi.fs X.env))) fun D σ H q => lc_rd (Q := fun x H1 => D.nx (σ.set i (some x)) H1) hi.rd hgo hs q⟩
theorem EX_lc2 (hc : X.calm = true) (hN : X.N.Nodup) (hi : SRC X c tg iter la fz src wi) (ok : BlkOk X.N X.env.scope scope own) (hg : BlkEG X c scope tg ts g) (ht : BlkET X c scope ifs lt t) (hi1 : BlkSRCN X c scope tg1 iter1 l1 src1 wi1) (hg1 : BlkEG X c scope tg1 ts1 g1) (ht1 : BlkET X c scope ifs1 lt1 t1) (he : BlkEX X c scope elt le e)
    (hs1 : ∀ env x, foldedSetIterable iter1 env x = pure x) (hgo : GOk ts g) (hgo1 : GOk ts1 g1) (hs : ∀ i ∈ ts, i ∈ own.map (·.2)) (hv : ∀ i ∈ ts1, i ∈ own.map (·.2)) :
    EX X c (.ListComp elt [⟨tg, iter, ifs, 0⟩, ⟨tg1, iter1, ifs1, 0⟩] scope pos) (la ++ (inner (own.map (·.2)) lt ++ (inner (own.map (·.2)) l1 ++ (inner (own.map (·.2)) lt1 ++ inner (own.map (·.2)) le)))) (.own false) (lc2V src g t src1 g1 t1 e (own.map (·.2)) ts1) :=
  ⟨⟨fun pins s σ H Q I q => (pe_unl (pe_lc2 (vs1 := ts1) hc hN hi.pi ok hv (fun s H C cl fp => (hg s H C cl fp).run) (fun s H C cl fp => (ht s H C cl fp).run) (fun s H C cl fp => (hi1 s H C cl fp).pi) (fun s H C cl fp => (hg1 s H C cl fp).run) (fun s H C cl fp => (ht1 s H C cl fp).run) (fun s H C cl fp => (he s H C cl fp).run) (hi.fs X.env) hs1)).run pins s σ H Q I
    (lc2_rd hi.rd (hi1 s H 0 [] []).rd hgo hgo1 hs (fun _ h => h) hv q)⟩⟩
theorem EN_lc2 (hc : X.calm = true) (hN : X.N.Nodup) (hy : X.N[i]? = some y) (hyl : X.env.scope.names.lookup y = some .local) (hsw : swapsWith (.ListComp elt [⟨tg, iter, ifs, 0⟩, ⟨tg1, iter1, ifs1, 0⟩] scope pos) (some (.Name y py)) spos.line X.env = pure true)
    (hi : SRC X c tg iter la fz src wi) (ok : BlkOk X.N X.env.scope scope own) (hg : BlkEG X c scope tg ts g) (ht : BlkET X c scope ifs lt t) (hi1 : BlkSRCN X c scope tg1 iter1 l1 src1 wi1) (hg1 : BlkEG X c scope tg1 ts1 g1) (ht1 : BlkET X c scope ifs1 lt1 t1) (he : BlkEX X c scope elt le e)
    (hs1 : ∀ env x, foldedSetIterable iter1 env x = pure x) (hgo : GOk ts g) (hgo1 : GOk ts1 g1) (hs : ∀ i ∈ ts, i ∈ own.map (·.2)) (hv : ∀ i ∈ ts1, i ∈ own.map (·.2)) :
    EN X c (.Assign [.Name y py] (.ListComp elt [⟨tg, iter, ifs, 0⟩, ⟨tg1, iter1, ifs1, 0⟩] scope pos) spos) i (la ++ (inner (own.map (·.2)) lt ++ (inner (own.map (·.2)) l1 ++ (inner (own.map (·.2)) lt1 ++ inner (own.map (·.2)) le)))) (.own false) (lc2V src g t src1 g1 t1 e (own.map (·.2)) ts1) :=
  ⟨⟨fun pins s σ H D I q => (ps_unl (ps_setLc2 (vs1 := ts1) hc hN hy hyl hsw hi.pi ok hv (fun s H C cl fp => (hg s H C cl fp).run) (fun s H C cl fp => (ht s H C cl fp).run) (fun s H C cl fp => (hi1 s H C cl fp).pi) (fun s H C cl fp => (hg1 s H C cl fp).run) (fun s H C cl fp => (ht1 s H C cl fp).run) (fun s H C cl fp => (he s H C cl fp).run) (hi.fs X.env) hs1)).run pins s σ H D I
    (lc2_rd (Q := fun x H1 => D.nx (σ.set i (some x)) H1) hi.rd (hi1 s H 0 [] []).rd hgo hgo1 hs (fun _ h => h) hv q)⟩⟩
end
end WH

namespace WH
open PySem PySem.Spec PyProof.Rows L2

/-! ## the state of a def's body -/
/-- what the body leans on: the call's heap; what is frozen; what is locked -/
structure Bs where
  F0 : Hp
  H0 : Hp
  Fb : Hp
  Hb : Hp
  A : Addr → Prop
structure SV (wa : Option Addr) (B : Bs) (F H : Hp) : Prop where
  st : Stp (Wx wa) B.F0 B.H0 F H
  fb : ∀ a u, B.Fb a = some u → F a = some u
  kb : ∀ a, B.A a → wa ≠ some a ∧ (∃ o u, B.Hb a = some (.frz o u)) ∧ H a = B.Hb a
structure SE (K : Frag) (wa : Option Addr) (o : Nat → Int) (B : Bs) (F : Hp) (ρ : En) (σ : L2.St) (H : Hp) (n : Nat) : Prop where
  er : ER K wa o F ρ σ H n
  sv : SV wa B F H
  ow : ∀ i s, eget ρ i = some s → s.own = true → ∃ a u, σ[i]? = some (some (.ref a)) ∧ B.H0 a = none ∧ H a = some u ∧ ∀ ob w, u ≠ .frz ob w
section
variable {K : Frag} {wa : Option Addr} {o : Nat → Int} {B : Bs} {F H F' H' : Hp} {ρ : En} {σ : L2.St} {n n' : Nat}
theorem SV.step (s : SV wa B F H) (a : Stp (Wx wa) F H F' H') : SV wa B F' H' :=
  ⟨s.st.trans a, fun c u h => a.fx c u (s.fb c u h), fun c h => by
    obtain ⟨w, ⟨ob, u, e⟩, q⟩ := s.kb c h
    refine ⟨w, ⟨ob, u, e⟩, ?_⟩
    rw [e]
    rw [e] at q
    exact a.kp c _ w q⟩
theorem SE.step (s : SE K wa o B F ρ σ H n) (a : Stp (Wx wa) F H F' H') (e : ER K wa o F' ρ σ H' n') : SE K wa o B F' ρ σ H' n' :=
  ⟨e, s.sv.step a, fun i t h ho => by
    obtain ⟨c, u, q1, q2, q3, q4⟩ := s.ow i t h ho
    obtain ⟨v, k1, k2⟩ := s.er.sl i t h
    obtain ⟨c', e1, w, _, _⟩ := k2.there ho
    subst e1
    rw [k1] at q1
    cases q1
    exact ⟨c, u, k1, q2, a.kp c u w q3, q4⟩⟩
/-- an own slot's address -/
theorem ER.addr (E : ER K wa o F ρ σ H n) {i : Nat} {s : Sl} (h : eget ρ i = some s) (ho : s.own = true) : ∃ a, σ[i]? = some (some (.ref a)) ∧ wa ≠ some a ∧ F a = none ∧ ¬ Fre H a := by
  obtain ⟨v, k1, k2⟩ := E.sl i s h
  obtain ⟨c', e1, w, f, q⟩ := k2.there ho
  subst e1
  exact ⟨c', k1, w, f, q⟩

/-! ## a slot's own object, frozen -/
def fz1 (i : Nat) (ρ : En) : En := match eget ρ i with
  | some (.ol ds) => eset ρ i (some (.fr (.list ds)))
  | some (.od _ ps) => eset ρ i (some (.fr (.dict ps)))
  | _ => ρ
def fzE : List Nat → En → En
  | [], ρ => ρ
  | i :: r, ρ => fzE r (fz1 i ρ)
theorem set_same {σ : L2.St} {i : Nat} {v : V} (h : σ[i]? = some (some v)) : σ.set i (some v) = σ := by
  apply List.ext_getElem?
  intro j
  by_cases e : i = j
  · subst e
    have hl : i < σ.length := by
      rcases Nat.lt_or_ge i σ.length with q | q
      · exact q
      · rw [List.getElem?_eq_none q] at h; cases h
    rw [List.getElem?_set_self hl, h]
  · rw [List.getElem?_set_ne e]
theorem eset_eset {v w : Option Sl} : ∀ {ρ : En} {i : Nat}, eset (eset ρ i v) i w = eset ρ i w
  | [], _ => rfl
  | _ :: _, 0 => rfl
  | x :: r, i + 1 => congrArg (x :: ·) (eset_eset (ρ := r) (i := i))
theorem SE.frzAt (s : SE K wa o B F ρ σ H n) {i : Nat} {a : Addr} {u : HO} {d : D} (hσ : σ[i]? = some (some (.ref a))) (hs : ∀ j t, j ≠ i → eget ρ j = some t → t.own = true → σ[j]? ≠ some (some (.ref a))) (hw : wa ≠ some a) (hF : F a = none) (hH : H a = some u) (hu : ∀ ob w, u ≠ .frz ob w) (h0 : B.H0 a = none)
    (r : RD K (upd F a u) (.ref a) d) : SE K wa o B (upd F a u) (eset ρ i (some (.fr d))) σ H n := by
  have E1 : ER K wa o F (eset ρ i none) σ H n := by
    have := s.er.wipe1 (i := i) (x := some (.ref a))
    rw [set_same hσ] at this
    exact this
  have E2 : ER K wa o (upd F a u) (eset ρ i none) σ H n := E1.freeze hF (.inl hH) hu hw fun j t h ho => by
    have hj : j ≠ i := fun e => by
      subst e
      by_cases hl : j < ρ.length
      · rw [eget_eset_same hl] at h; cases h
      · rw [eset_none hl] at h
        exact hl (eget_lt h)
    rw [eget_eset_ne (Ne.symm hj)] at h
    exact hs j t hj h ho
  have E3 := E2.set (i := i) r
  rw [eset_eset, set_same hσ] at E3
  refine ⟨E3, ⟨s.sv.st.freeze h0 hF hH, fun c w h => ?_, s.sv.kb⟩, fun j t h ho => ?_⟩
  · rw [upd_ne (ne_of_none (s.sv.fb c w h) hF)]
    exact s.sv.fb c w h
  · have hj : j ≠ i := fun e => by
      subst e
      by_cases hl : j < ρ.length
      · rw [eget_eset_same hl] at h; cases h; cases ho
      · rw [eset_none hl] at h
        exact hl (eget_lt h)
    rw [eget_eset_ne (Ne.symm hj)] at h
    exact s.ow j t h ho
theorem SE.fz1 (s : SE K wa o B F ρ σ H n) (i : Nat) : ∃ F', SE K wa o B F' (fz1 i ρ) σ H n ∧ (∀ a u, F a = some u → F' a = some u) := by
  unfold WH.fz1
  cases e : eget ρ i with
  | none => exact ⟨F, s, fun _ _ h => h⟩
  | some t =>
    have al : ∀ {a : Addr}, t.own = true → σ[i]? = some (some (.ref a)) → ∀ j t', j ≠ i → eget ρ j = some t' → t'.own = true → σ[j]? ≠ some (some (.ref a)) := fun {a} ho hσ j t' hj h ho' => s.er.ap i j t t' a (Ne.symm hj) e h ho ho' hσ
    cases t with
    | fr d => exact ⟨F, s, fun _ _ h => h⟩
    | ww => exact ⟨F, s, fun _ _ h => h⟩
    | ks _ => exact ⟨F, s, fun _ _ h => h⟩
    | ol ds =>
      obtain ⟨v, k1, a, xs, rfl, w, f, q, r⟩ := s.er.sl i _ e
      obtain ⟨a', u, k2, k3, k4, k5⟩ := s.ow i _ e rfl
      rw [k1] at k2
      cases k2
      rw [q] at k4
      cases k4
      exact ⟨_, s.frzAt k1 (al rfl k1) w f q k5 k3 (.lst (.inl upd_same) (r.mono (sb_upd f))), fun c u h => by rw [upd_ne (ne_of_none h f)]; exact h⟩
    | od tk ps =>
      obtain ⟨v, k1, a, o', rfl, w, f, q, r⟩ := s.er.sl i _ e
      obtain ⟨a', u, k2, k3, k4, k5⟩ := s.ow i _ e rfl
      rw [k1] at k2
      cases k2
      have q' : H a = some o' := by
        rcases q with q | ⟨ob, q, _⟩
        · exact q
        · rw [q] at k4; cases k4; exact absurd rfl (k5 _ _)
      rw [q'] at k4
      cases k4
      refine ⟨_, s.frzAt k1 (al rfl k1) w f q' k5 k3 ?_, fun c u h => by rw [upd_ne (ne_of_none h f)]; exact h⟩
      have r' := r.mono (sb_upd (u := o') f)
      cases tk with
      | false => obtain ⟨kvs, rfl, r2⟩ := r'; exact .dk (.inl upd_same) r2
      | true => obtain ⟨kvs, rfl, r2⟩ := r'; exact .dt (.inl upd_same) r2
theorem SE.fzE : ∀ (lk : List Nat) {F : Hp} {ρ : En}, SE K wa o B F ρ σ H n → ∃ F', SE K wa o B F' (fzE lk ρ) σ H n
  | [], F, _, s => ⟨F, s⟩
  | i :: r, _, _, s => let ⟨_, s1, _⟩ := s.fz1 i; SE.fzE r s1
theorem fz1_non (i : Nat) (ρ : En) : ∀ s, eget (WH.fz1 i ρ) i = some s → s.own = false := fun s h => by
  unfold WH.fz1 at h
  split at h
  · rename_i ds e
    rw [eget_eset_same (eget_lt e)] at h
    cases h
    rfl
  · rename_i tk ps e
    rw [eget_eset_same (eget_lt e)] at h
    cases h
    rfl
  · rename_i n1 n2
    cases s with
    | fr d => rfl
    | ww => rfl
    | ks _ => rfl
    | ol ds => exact absurd h (n1 ds)
    | od tk ps => exact absurd h (n2 tk ps)
theorem fz1_keep (i j : Nat) (ρ : En) (h : ∀ s, eget ρ j = some s → s.own = false) : ∀ s, eget (WH.fz1 i ρ) j = some s → s.own = false := fun s e => by
  by_cases z : i = j
  · subst z; exact fz1_non i ρ s e
  · unfold WH.fz1 at e
    split at e
    · rw [eget_eset_ne z] at e; exact h s e
    · rw [eget_eset_ne z] at e; exact h s e
    · exact h s e
theorem fzE_keep (j : Nat) : ∀ (lk : List Nat) (ρ : En), (∀ s, eget ρ j = some s → s.own = false) → ∀ s, eget (WH.fzE lk ρ) j = some s → s.own = false
  | [], _, h => h
  | i :: r, ρ, h => fzE_keep j r _ (fz1_keep i j ρ h)
theorem fzE_nl : ∀ (lk : List Nat) (ρ : En), nl lk (WH.fzE lk ρ)
  | [], _ => fun i hi => by simp at hi
  | i :: r, ρ => fun j hj s e => by
    rcases List.mem_cons.mp hj with z | z
    · subst z
      exact fzE_keep j r _ (fz1_non j ρ) s e
    · exact fzE_nl r (WH.fz1 i ρ) j z s e

/-! ## a slot set -/
theorem ER.put (E : ER K wa o F ρ σ H n) {i : Nat} {v : V} {s : Sl} (r : SR K wa F H s v) (hs : s.own = true → ∀ a, v = .ref a → ∀ k t, k ≠ i → eget ρ k = some t → t.own = true → σ[k]? ≠ some (some (.ref a))) :
    ER K wa o F (eset ρ i (some s)) (σ.set i (some v)) H n := by
  by_cases hi : i < ρ.length
  · have hl : i < σ.length := by rw [← E.len]; exact hi
    refine ⟨E.sb, fun j t h => ?_, fun j k t t' a hjk h1 h2 o1 o2 e1 => ?_, E.ww, by rw [eset_length, List.length_set]; exact E.len⟩
    · by_cases hj : i = j
      · subst hj
        rw [eget_eset_same hi] at h
        cases h
        exact ⟨v, List.getElem?_set_self hl, r⟩
      · rw [eget_eset_ne hj] at h
        obtain ⟨w, e1, e2⟩ := E.sl j t h
        exact ⟨w, by rw [List.getElem?_set_ne hj]; exact e1, e2⟩
    · by_cases nj : i = j
      · subst nj
        rw [eget_eset_same hi] at h1
        cases h1
        rw [List.getElem?_set_self hl] at e1
        cases e1
        rw [eget_eset_ne hjk] at h2
        rw [List.getElem?_set_ne hjk]
        exact hs o1 a rfl k t' (Ne.symm hjk) h2 o2
      · rw [eget_eset_ne nj] at h1
        rw [List.getElem?_set_ne nj] at e1
        by_cases nk : i = k
        · subst nk
          rw [eget_eset_same hi] at h2
          cases h2
          rw [List.getElem?_set_self hl]
          intro z
          cases z
          exact hs o2 a rfl j t (Ne.symm nj) h1 o1 e1
        · rw [eget_eset_ne nk] at h2
          rw [List.getElem?_set_ne nk]
          exact E.ap j k t t' a hjk h1 h2 o1 o2 e1
  · rw [eset_none hi, set_none (by rw [← E.len]; exact hi)]
    exact E
theorem SE.put (S : SE K wa o B F ρ σ H n) {i : Nat} {v : V} {s : Sl} (r : SR K wa F H s v) (hs : s.own = true → ∃ a u, v = .ref a ∧ B.H0 a = none ∧ H a = some u ∧ (∀ ob w, u ≠ .frz ob w) ∧ ∀ k t, k ≠ i → eget ρ k = some t → t.own = true → σ[k]? ≠ some (some (.ref a))) :
    SE K wa o B F (eset ρ i (some s)) (σ.set i (some v)) H n := by
  refine ⟨S.er.put r fun ho a e => ?_, S.sv, fun j t h ho => ?_⟩
  · obtain ⟨a', u, e', _, _, _, q⟩ := hs ho
    rw [e] at e'
    cases e'
    exact q
  · by_cases hi : i < ρ.length
    · have hl : i < σ.length := by rw [← S.er.len]; exact hi
      by_cases hj : i = j
      · subst hj
        rw [eget_eset_same hi] at h
        cases h
        obtain ⟨a', u, e', q1, q2, q3, _⟩ := hs ho
        exact ⟨a', u, by rw [e']; exact List.getElem?_set_self hl, q1, q2, q3⟩
      · rw [eget_eset_ne hj] at h
        rw [List.getElem?_set_ne hj]
        exact S.ow j t h ho
    · rw [eset_none hi] at h
      rw [set_none (by rw [← S.er.len]; exact hi)]
      exact S.ow j t h ho
/-- a value that an expression has given, stored -/
theorem SE.store (S : SE K wa o B F ρ σ H n) (st : Stp (Wx wa) F H F' H') (E' : ER K wa o F' ρ σ H' n') {fr : Fr} {v : V} {d : D} (r : RK K wa fr F' H' H v d) (i : Nat) : SE K wa o B F' (eset ρ i (some (mkS fr d))) (σ.set i (some v)) H' n' :=
  (S.step st E').put r.1 fun ho => by
    obtain ⟨a, e, hn, u, q1, q2⟩ := r.2 ho
    refine ⟨a, u, e, ?_, q1, q2, fun k t hk h ho' z => ?_⟩
    · cases z : B.H0 a with
      | none => rfl
      | some w => exact absurd hn (S.sv.st.kn a (by rw [z]; exact fun y => nomatch y))
    · obtain ⟨b, k1, _, _, k4⟩ := S.er.addr h ho'
      rw [k1] at z
      cases z
      exact k4 (.inl hn)
end

/-! ## statements by data -/
inductive Ou where
  | nx (ρ : En)
  | rt (d : D)
  | bk (ρ : En)
  | ct (ρ : En)
abbrev DenS := En → Nat → Option (Ou × Nat)
def Res (K : Frag) (wa : Option Addr) (o : Nat → Int) (B : Bs) (n : Nat) (D : L2.Ends) : Ou → Prop
  | .nx ρ => ∀ F σ H, SE K wa o B F ρ σ H n → D.nx σ H
  | .bk ρ => ∀ F σ H, SE K wa o B F ρ σ H n → D.bk σ H
  | .ct ρ => ∀ F σ H, SE K wa o B F ρ σ H n → D.ct σ H
  | .rt d => ∀ v F H, SV wa B F H → WOk K o F H n wa → RD K F v d → D.rt v H
def tS (K : Frag) (wa : Option Addr) (o : Nat → Int) (f : DenS) : TS := fun D σ H => ∃ B F ρ n out n', SE K wa o B F ρ σ H n ∧ f ρ n = some (out, n') ∧ Res K wa o B n' D out
structure ES (X : Cx) (c : Dc) (st : Stmt) (f : DenS) : Prop where
  run : PS X st (tS X.K c.wa c.o f)
structure ESs (X : Cx) (c : Dc) (st : List Stmt) (f : DenS) : Prop where
  run : PSs X st (tS X.K c.wa c.o f)
end WH

namespace WH
open PySem PySem.Spec PyProof.Rows L2
theorem pss_weak {X : Cx} {st : List Stmt} {t t' : TS} (h : PSs X st t) (w : ∀ D σ H, t' D σ H → t D σ H) : PSs X st t' := ⟨fun pins s σ H D I q => h.run pins s σ H D I (w D σ H q)⟩
section
variable {K : Frag} {wa : Option Addr} {o : Nat → Int} {B : Bs} {F H F' H' : Hp} {ρ : En} {σ : L2.St} {n n' : Nat}
theorem SE.retV (S : SE K wa o B F ρ σ H n) (st : Stp (Wx wa) F H F' H') (E' : ER K wa o F' ρ σ H' n') : SV wa B F' H' ∧ WOk K o F' H' n' wa := ⟨S.sv.step st, E'.ww⟩
end
section
variable {X : Cx} {c : Dc} {e : Expr} {st : Stmt} {sts : List Stmt} {lk la lb : List Nat} {fr : Fr} {f : Den} {pos : Pos} {g h : DenS} {i j l : Nat}
/-! ### name = e -/
def setS (i : Nat) (lk : List Nat) (fr : Fr) (f : Den) : DenS := fun ρ n => (f (fzE lk ρ) n).map fun p => (.nx (eset (fzE lk ρ) i (some (mkS fr p.1))), p.2)
theorem setS_inv {ρ : En} {n n' : Nat} {out : Ou} (e : setS i lk fr f ρ n = some (out, n')) : ∃ d, f (fzE lk ρ) n = some (d, n') ∧ out = .nx (eset (fzE lk ρ) i (some (mkS fr d))) := by
  unfold setS at e
  cases ef : f (fzE lk ρ) n with
  | none => rw [ef] at e; cases e
  | some p =>
    rw [ef] at e
    cases e
    exact ⟨p.1, rfl, rfl⟩
theorem ES_set (h : EN X c st i lk fr f) : ES X c st (setS i lk fr f) := ⟨ps_weak h.run fun D σ H ⟨B, F, ρ, n, out, n', S, hf, q⟩ => by
  obtain ⟨d, e1, rfl⟩ := setS_inv hf
  obtain ⟨F1, S1⟩ := S.fzE lk
  exact ⟨F1, _, n, d, n', S1.er, fzE_nl lk ρ, e1, fun v F2 H2 st2 E2 r2 => q F2 _ H2 (S1.store st2 E2 r2 i)⟩⟩
/-! ### a, b = x, y -/
def par2S (i j : Nat) (la lb : List Nat) (fa fb : Fr) (f g : Den) : DenS := fun ρ n => (f (fzE (la ++ lb) ρ) n).bind fun p => (g (fzE (la ++ lb) ρ) p.2).map fun q => (.nx (eset (eset (fzE (la ++ lb) ρ) i (some (mkS fa p.1))) j (some (mkS fb q.1))), q.2)
theorem ES_par2 {fa fb : Fr} {x y : Str} {a b : Expr} {ga gb : Den} {px py pt : Pos} {kt k2 : Nat} {pt2 : Pos} (hc : X.calm = true) (hN : X.N.Nodup) (hi : X.N[i]? = some x) (hj : X.N[j]? = some y) (hij : i ≠ j)
    (hx : X.env.scope.names.lookup x = some .local) (hy : X.env.scope.names.lookup y = some .local) (ha : EX X c a la fa ga) (hb : EX X c b lb fb gb)
    (hw : swappedStores [.Tuple [.Name x px, .Name y py] kt pt] (.Tuple [a, b] k2 pt2) X.env = pure (some [x, y]))
    (hs : swapsWithSole [.Tuple [.Name x px, .Name y py] kt pt] (.Tuple [a, b] k2 pt2) pos.line X.env = pure false) (h1 : notStar a = true) (h2 : notStar b = true) :
    ES X c (.Assign [.Tuple [.Name x px, .Name y py] kt pt] (.Tuple [a, b] k2 pt2) pos) (par2S i j la lb fa fb ga gb) :=
  ⟨ps_weak (ps_par hc hN hi hj hij hx hy (pa_cons ha.run (pa_cons hb.run pa_nil (starEach_cons h2)) (starEach_cons h1)) hw hs) fun D σ H ⟨B, F, ρ, n, out, n', S, hf, q⟩ => by
    unfold par2S at hf
    obtain ⟨F1, S1⟩ := S.fzE (la ++ lb)
    cases e1 : ga (fzE (la ++ lb) ρ) n with
    | none => rw [e1] at hf; cases hf
    | some p =>
      rw [e1] at hf
      simp only [Option.bind_some] at hf
      cases e2 : gb (fzE (la ++ lb) ρ) p.2 with
      | none => rw [e2] at hf; cases hf
      | some r =>
        rw [e2] at hf
        cases hf
        have hl := fzE_nl (la ++ lb) ρ
        refine ⟨F1, _, n, p.1, p.2, S1.er, nl_l hl, e1, fun v F2 H2 st2 E2 r2 => ⟨F2, _, p.2, r.1, r.2, E2, nl_r hl, e2, fun w F3 H3 st3 E3 r3 => ⟨v, w, rfl, q F3 _ H3 ?_⟩⟩⟩
        have S2 := S1.store st2 E2 r2 i
        -- the first, in the second's heap
        have E23 : ER X.K c.wa c.o F3 (eset (fzE (la ++ lb) ρ) i (some (mkS fa p.1))) (σ.set i (some v)) H3 r.2 := S2.er.step st3 E3.ww
        exact S2.store st3 E23 r3 j⟩
def par3S (i j l : Nat) (la lb lc : List Nat) (fa fb fc : Fr) (f g k : Den) : DenS := fun ρ n => (f (fzE (la ++ (lb ++ lc)) ρ) n).bind fun p => (g (fzE (la ++ (lb ++ lc)) ρ) p.2).bind fun q => (k (fzE (la ++ (lb ++ lc)) ρ) q.2).map fun u =>
  (.nx (eset (eset (eset (fzE (la ++ (lb ++ lc)) ρ) i (some (mkS fa p.1))) j (some (mkS fb q.1))) l (some (mkS fc u.1))), u.2)
theorem ES_par3 {fa fb fd : Fr} {lc : List Nat} {x y z : Str} {a b d : Expr} {ga gb gc : Den} {px py pz pt : Pos} {kt k2 : Nat} {pt2 : Pos} (hc : X.calm = true) (hN : X.N.Nodup) (hi : X.N[i]? = some x) (hj : X.N[j]? = some y) (hl : X.N[l]? = some z) (hij : i ≠ j) (hil : i ≠ l) (hjl : j ≠ l)
    (hx : X.env.scope.names.lookup x = some .local) (hy : X.env.scope.names.lookup y = some .local) (hz : X.env.scope.names.lookup z = some .local) (ha : EX X c a la fa ga) (hb : EX X c b lb fb gb) (hd : EX X c d lc fd gc)
    (hw : swappedStores [.Tuple [.Name x px, .Name y py, .Name z pz] kt pt] (.Tuple [a, b, d] k2 pt2) X.env = pure (some [x, y, z]))
    (hs : swapsWithSole [.Tuple [.Name x px, .Name y py, .Name z pz] kt pt] (.Tuple [a, b, d] k2 pt2) pos.line X.env = pure false) (h1 : notStar a = true) (h2 : notStar b = true) (h3 : notStar d = true) :
    ES X c (.Assign [.Tuple [.Name x px, .Name y py, .Name z pz] kt pt] (.Tuple [a, b, d] k2 pt2) pos) (par3S i j l la lb lc fa fb fd ga gb gc) :=
  ⟨ps_weak (ps_par3 hc hN hi hj hl hij hil hjl hx hy hz (pa_cons ha.run (pa_cons hb.run (pa_cons hd.run pa_nil (starEach_cons h3)) (starEach_cons h2)) (starEach_cons h1)) hw hs) fun D σ H ⟨B, F, ρ, n, out, n', S, hf, q⟩ => by
    unfold par3S at hf
    obtain ⟨F1, S1⟩ := S.fzE (la ++ (lb ++ lc))
    cases e1 : ga (fzE (la ++ (lb ++ lc)) ρ) n with
    | none => rw [e1] at hf; cases hf
    | some p =>
      rw [e1] at hf
      simp only [Option.bind_some] at hf
      cases e2 : gb (fzE (la ++ (lb ++ lc)) ρ) p.2 with
      | none => rw [e2] at hf; cases hf
      | some r =>
        rw [e2] at hf
        simp only [Option.bind_some] at hf
        cases e3 : gc (fzE (la ++ (lb ++ lc)) ρ) r.2 with
        | none => rw [e3] at hf; cases hf
        | some t =>
          rw [e3] at hf
          cases hf
          have hl := fzE_nl (la ++ (lb ++ lc)) ρ
          refine ⟨F1, _, n, p.1, p.2, S1.er, nl_l hl, e1, fun v F2 H2 st2 E2 r2 => ⟨F2, _, p.2, r.1, r.2, E2, nl_l (nl_r hl), e2, fun w F3 H3 st3 E3 r3 => ⟨F3, _, r.2, t.1, t.2, E3, nl_r (nl_r hl), e3, fun u F4 H4 st4 E4 r4 => ⟨v, w, u, rfl, q F4 _ H4 ?_⟩⟩⟩⟩
          have S2 := S1.store st2 E2 r2 i
          have S3 := S2.store st3 (S2.er.step st3 E3.ww) r3 j
          exact S3.store st4 (S3.er.step st4 E4.ww) r4 l⟩
/-! ### targets = e -/
def asgS (lk : List Nat) (f : Den) (g : DenG) : DenS := fun ρ n => (f (fzE lk ρ) n).bind fun p => (g (fzE lk ρ) p.1).map fun ρ' => (.nx ρ', p.2)
theorem SE.tgt {K : Frag} {wa : Option Addr} {o : Nat → Int} {B : Bs} {F H : Hp} {ρ ρ' : En} {σ σ' : L2.St} {n : Nat} {ts : List Nat} {g : DenG} {d : D} (S : SE K wa o B F ρ σ H n) (E : ER K wa o F ρ' σ' H n) (hg : GOk ts g) (e : g ρ d = some ρ') (ho : Out ts σ σ') (hts : ∀ i ∈ ts, ∀ s, eget ρ' i = some s → s.own = false) : SE K wa o B F ρ' σ' H n :=
  ⟨E, S.sv, fun i s h h2 => by
    obtain ⟨a1, a2, a3⟩ := hg _ _ _ e
    have hi : i ∉ ts := fun z => by
      have := hts i z s h
      rw [h2] at this
      cases this
    rw [ho.2 i hi]
    exact S.ow i s (a3 i s h h2) h2⟩
/-- what a target stores is not own -/
def GFr (ts : List Nat) (g : DenG) : Prop := ∀ ρ d ρ', g ρ d = some ρ' → ∀ i ∈ ts, ∀ s, eget ρ' i = some s → s.own = false
def GsFr (ts : List Nat) (g : DenGs) : Prop := ∀ ρ d ρ', g ρ d = some ρ' → ∀ i ∈ ts, ∀ s, eget ρ' i = some s → s.own = false
theorem nameG_fr (i : Nat) : GFr [i] (nameG i) := fun ρ d ρ' h j hj s e => by
  cases h
  have : j = i := by simpa using hj
  subst this
  by_cases hl : j < ρ.length
  · rw [eget_eset_same hl] at e; cases e; rfl
  · rw [eset_none hl] at e; exact absurd (eget_lt e) hl
theorem nilG_fr : GsFr [] nilG := fun ρ d ρ' h j hj => by simp at hj
theorem consG_fr {ts us : List Nat} {g : DenG} {gs : DenGs} (h1 : GFr ts g) (h2 : GsFr us gs) (h3 : GsOk us gs) : GsFr (ts ++ us) (consG g gs) := fun ρ d ρ' h j hj s e => by
  cases d with
  | nil => cases h
  | cons d r =>
    have h' : (g ρ d).bind (fun ρ1 => gs ρ1 r) = some ρ' := h
    cases e1 : g ρ d with
    | none => rw [e1] at h'; cases h'
    | some ρ1 =>
      rw [e1] at h'
      by_cases z : j ∈ us
      · exact h2 ρ1 r ρ' h' j z s e
      · rcases List.mem_append.mp hj with y | y
        · cases o : s.own with
          | false => rfl
          | true =>
            have := h1 ρ d ρ1 e1 j y s ((h3 ρ1 r ρ' h').2.2 j s e o)
            rw [o] at this
            cases this
        · exact absurd y z
theorem tupG_fr {ts : List Nat} {k : Nat} {gs : DenGs} (h : GsFr ts gs) : GFr ts (tupG k gs) := fun ρ d ρ' e => by
  unfold tupG at e
  split at e
  · split at e
    · exact h _ _ _ e
    · cases e
  · split at e
    · exact h _ _ _ e
    · cases e
  · cases e
theorem ES_asg {tg : Expr} {ts : List Nat} {g : DenG} (he : EX X c e lk .no f) (hg : EG X c tg ts g) (hgo : GOk ts g) (hgf : GFr ts g) (hs : swapsWithSole [tg] e pos.line X.env = pure false) (hw : swappedStores [tg] e X.env = pure none)
    (h1 : (assignEach [tg] X.env).map (·.2) = [assign tg X.env]) : ES X c (.Assign [tg] e pos) (asgS lk f g) := ⟨ps_weak (ps_asg he.run hg.run hs hw h1) fun D σ H ⟨B, F, ρ, n, out, n', S, hf, q⟩ => by
  unfold asgS at hf
  obtain ⟨F1, S1⟩ := S.fzE lk
  cases e1 : f (fzE lk ρ) n with
  | none => rw [e1] at hf; cases hf
  | some p =>
    rw [e1] at hf
    simp only [Option.bind_some] at hf
    cases e2 : g (fzE lk ρ) p.1 with
    | none => rw [e2] at hf; cases hf
    | some ρ' =>
      rw [e2] at hf
      cases hf
      refine ⟨F1, _, n, p.1, p.2, S1.er, fzE_nl lk ρ, e1, fun v F2 H2 st2 E2 r2 => ⟨F2, _, p.2, p.1, ρ', E2, r2.1, e2, fun σ' E3 ho => q F2 σ' H2 ?_⟩⟩
      exact (S1.step st2 E2).tgt E3 hgo e2 ho (hgf _ _ _ e2)⟩
/-! ### return e -/
def retS (lk : List Nat) (f : Den) : DenS := fun ρ n => (f (fzE lk ρ) n).map fun p => (.rt p.1, p.2)
theorem ES_ret (he : EX X c e lk .no f) : ES X c (.Return (some e) pos) (retS lk f) := ⟨ps_weak (ps_ret he.run) fun D σ H ⟨B, F, ρ, n, out, n', S, hf, q⟩ => by
  unfold retS at hf
  obtain ⟨F1, S1⟩ := S.fzE lk
  cases e1 : f (fzE lk ρ) n with
  | none => rw [e1] at hf; cases hf
  | some p =>
    rw [e1] at hf
    cases hf
    refine ⟨F1, _, n, p.1, p.2, S1.er, fzE_nl lk ρ, e1, fun v F2 H2 st2 E2 r2 => ?_⟩
    obtain ⟨a1, a2⟩ := S1.retV st2 E2
    exact q v F2 H2 a1 a2 r2.1⟩
def brkS : DenS := fun ρ n => some (.bk ρ, n)
def contS : DenS := fun ρ n => some (.ct ρ, n)
def skipS : DenS := fun ρ n => some (.nx ρ, n)
theorem ES_brk : ES X c (.Break pos) brkS := ⟨ps_weak ps_break fun D σ H ⟨B, F, ρ, n, out, n', S, hf, q⟩ => by cases hf; exact q F σ H S⟩
theorem ES_cont : ES X c (.Continue pos) contS := ⟨ps_weak ps_continue fun D σ H ⟨B, F, ρ, n, out, n', S, hf, q⟩ => by cases hf; exact q F σ H S⟩
theorem ES_pass : ES X c (.Pass pos) skipS := ⟨ps_weak ps_pass fun D σ H ⟨B, F, ρ, n, out, n', S, hf, q⟩ => by cases hf; exact q F σ H S⟩
theorem ESs_nil : ESs X c [] skipS := ⟨pss_weak pss_nil fun D σ H ⟨B, F, ρ, n, out, n', S, hf, q⟩ => by cases hf; exact q F σ H S⟩
def seqS (g h : DenS) : DenS := fun ρ n => (g ρ n).bind fun p => match p.1 with
  | .nx ρ1 => h ρ1 p.2
  | _ => some p
theorem ESs_cons (h1 : ES X c st g) (h2 : ESs X c sts h) : ESs X c (st :: sts) (seqS g h) := ⟨pss_weak (pss_cons h1.run h2.run) fun D σ H ⟨B, F, ρ, n, out, n', S, hf, q⟩ => by
  unfold seqS at hf
  cases e1 : g ρ n with
  | none => rw [e1] at hf; cases hf
  | some p =>
    rw [e1] at hf
    simp only [Option.bind_some] at hf
    obtain ⟨o1, m⟩ := p
    refine ⟨B, F, ρ, n, o1, m, S, e1, ?_⟩
    cases o1 with
    | nx ρ1 => exact fun F1 σ1 H1 S1 => ⟨B, F1, ρ1, m, out, n', S1, hf, q⟩
    | rt d => cases hf; exact q
    | bk ρ1 => cases hf; exact q
    | ct ρ1 => cases hf; exact q⟩
/-! ### if -/
def ifS (lk : List Nat) (t : Den) (g h : DenS) : DenS := fun ρ n => (t (fzE lk ρ) n).bind fun p => match p.1 with
  | .bool true => g (fzE lk ρ) p.2
  | .bool false => h (fzE lk ρ) p.2
  | _ => none
theorem ES_if {a b : List Stmt} (ht : ET X c e lk f) (ha : ESs X c a g) (hb : ESs X c b h) : ES X c (.If e a b pos) (ifS lk f g h) := ⟨ps_weak (ps_if ht.run ha.run hb.run) fun D σ H ⟨B, F, ρ, n, out, n', S, hf, q⟩ => by
  unfold ifS at hf
  obtain ⟨F1, S1⟩ := S.fzE lk
  cases e1 : f (fzE lk ρ) n with
  | none => rw [e1] at hf; cases hf
  | some p =>
    rw [e1] at hf
    simp only [Option.bind_some] at hf
    obtain ⟨d, m⟩ := p
    cases d with
    | bool b =>
      refine ⟨F1, _, n, b, m, S1.er, fzE_nl lk ρ, e1, fun F2 H2 st2 E2 => ?_⟩
      have S2 := S1.step st2 E2
      cases b with
      | true => exact iteT ⟨B, F2, _, m, out, n', S2, hf, q⟩
      | false => exact iteF ⟨B, F2, _, m, out, n', S2, hf, q⟩
    | _ => cases hf⟩
/-! ### name op= e -/
def augD (op : Int → Int → Int) (i : Nat) (lk : List Nat) (f : Den) : DenS := fun ρ n => match eget (fzE lk ρ) i with
  | some (.fr (.int a)) => (f (fzE lk ρ) n).bind fun p => match p.1 with
    | .int b => some (.nx (eset (fzE lk ρ) i (some (.fr (.int (op a b))))), p.2)
    | _ => none
  | _ => none
theorem ES_aug {x : Str} {op : Operator} {fo : Int → Int → Int} {pos' : Pos} (hN : X.N.Nodup) (hi : X.N[i]? = some x) (hx : Loc X.env.scope x) (he : EX X c e lk .no f) (ho : PIp X op (ipI fo)) (hf : X.fn x = true ∨ X.env.scope.names.lookup x = some .local) :
    ES X c (.AugAssign (.Name x pos') op e pos) (augD fo i lk f) := ⟨ps_weak (ps_aug hN hi hx he.run ho hf) fun D σ H ⟨B, F, ρ, n, out, n', S, hf, q⟩ => by
  unfold augD at hf
  obtain ⟨F1, S1⟩ := S.fzE lk
  split at hf
  · rename_i a ea
    cases e1 : f (fzE lk ρ) n with
    | none => rw [e1] at hf; cases hf
    | some p =>
      rw [e1] at hf
      simp only [Option.bind_some] at hf
      split at hf
      · rename_i b eb
        cases hf
        obtain ⟨v, k1, k2⟩ := S1.er.sl i _ ea
        cases (show RD X.K F1 v (.int a) from k2)
        refine ⟨.int a, k1, F1, _, n, p.1, p.2, S1.er, fzE_nl lk ρ, e1, fun v F2 H2 st2 E2 r2 => ?_⟩
        have r3 := r2.1
        rw [eb] at r3
        cases (show RD X.K F2 v (.int b) from r3)
        exact ⟨a, b, rfl, rfl, q F2 _ H2 ((S1.step st2 E2).put (s := .fr (.int (fo a b))) (.int _) fun z => nomatch z)⟩
      · cases hf
  · cases hf⟩
end
end WH

namespace WH
open PySem PySem.Spec PyProof.Rows L2

/-! ## the base under a lock -/
def lkB (H0 : Hp) (d : Addr) (x : HO) : Hp := fun a => if a = d then (match H0 d with | none => none | some _ => some x) else H0 a
theorem lkB_ne {H0 : Hp} {d a : Addr} {x : HO} (h : a ≠ d) : lkB H0 d x a = H0 a := if_neg h
theorem lkB_none {H0 : Hp} {d : Addr} {x : HO} (h : H0 d = none) : lkB H0 d x d = none := by
  unfold lkB
  rw [if_pos rfl, h]
theorem lkB_some {H0 : Hp} {d : Addr} {x u : HO} (h : H0 d = some u) : lkB H0 d x d = some x := by
  unfold lkB
  rw [if_pos rfl, h]
theorem lkB_iff {H0 : Hp} {d a : Addr} {x : HO} : lkB H0 d x a = none ↔ H0 a = none := by
  by_cases z : a = d
  · subst z
    cases e : H0 a with
    | none => rw [lkB_none e]
    | some u =>
      rw [lkB_some e]
      exact ⟨(fun z => nomatch z), (fun z => nomatch z)⟩
  · rw [lkB_ne z]
theorem Rx.lock {H : Hp} {d : Addr} {od : Obj} {u : HO} (hd : H d = some u) (du : isDct u) {a : Addr} {v : HO} (r : Rx H a v) : Rx (upd H d (.frz od u)) a v := by
  by_cases z : a = d
  · subst z
    rcases r with r | ⟨ob, r, nv⟩
    · rw [hd] at r; cases r; exact .inr ⟨od, upd_same, du.nt⟩
    · rw [hd] at r; cases r; exact (du : False).elim
  · rcases r with r | ⟨ob, r, nt⟩
    · exact .inl (by rw [upd_ne z]; exact r)
    · exact .inr ⟨ob, by rw [upd_ne z]; exact r, nt⟩
theorem Stp.lockB {ex : Addr → Prop} {F0 H0 F H : Hp} {d : Addr} {od : Obj} {u : HO} (st : Stp ex F0 H0 F H) (hd : H d = some u) (du : isDct u) (hx : ¬ ex d) : Stp ex F0 (lkB H0 d (.frz od u)) F (upd H d (.frz od u)) := by
  refine ⟨fun a v w e => ?_, fun a e => ?_, st.fx, fun a e => ?_, fun a xs e => ?_, fun a v r => Rx.lock hd du (st.ok a v r)⟩
  · by_cases z : a = d
    · subst z
      cases e0 : H0 a with
      | none => rw [lkB_none e0] at e; cases e
      | some w => rw [lkB_some e0] at e; cases e; exact upd_same
    · rw [lkB_ne z] at e; rw [upd_ne z]; exact st.kp a v w e
  · by_cases z : a = d
    · subst z; rw [upd_same]; exact fun y => nomatch y
    · rw [lkB_ne z] at e; rw [upd_ne z]; exact st.kn a e
  · rcases st.nw a e with q | q
    · exact .inl q
    · right
      by_cases z : a = d
      · subst z
        rcases q with q | ⟨xs, q⟩
        · exact .inl (lkB_none q)
        · have := st.kp a _ hx q
          rw [hd] at this
          cases this
          exact (du : False).elim
      · rcases q with q | ⟨xs, q⟩
        · exact .inl (by rw [lkB_ne z]; exact q)
        · exact .inr ⟨xs, by rw [lkB_ne z]; exact q⟩
  · have z : a ≠ d := fun z => by subst z; rw [upd_same] at e; cases e
    rw [upd_ne z] at e
    rw [lkB_ne z]
    exact st.kt a xs e
theorem Stp.unlockB {ex : Addr → Prop} {F0 H0 F H : Hp} {d : Addr} {od : Obj} {u : HO} (h0 : H0 d = none ∨ H0 d = some u) (st : Stp ex F0 (lkB H0 d (.frz od u)) F H) (hk : H d = some (.frz od u)) (du : isDct u) (hF : F d = some u) : Stp ex F0 H0 F (upd H d u) := by
  refine ⟨fun a v w e => ?_, fun a e => ?_, st.fx, fun a e => ?_, fun a xs e => ?_, fun a v r => ?_⟩
  · by_cases z : a = d
    · subst z
      rcases h0 with h0 | h0
      · rw [h0] at e; cases e
      · rw [h0] at e; cases e; exact upd_same
    · rw [upd_ne z]; exact st.kp a v w (by rw [lkB_ne z]; exact e)
  · by_cases z : a = d
    · subst z; rw [upd_same]; exact fun y => nomatch y
    · rw [upd_ne z]; exact st.kn a (fun y => e (lkB_iff.mp y))
  · rcases st.nw a e with q | q
    · exact .inl q
    · right
      rcases q with q | ⟨xs, q⟩
      · exact .inl (lkB_iff.mp q)
      · by_cases z : a = d
        · subst z
          cases e0 : H0 a with
          | none => rw [lkB_none e0] at q; cases q
          | some w => rw [lkB_some e0] at q; cases q
        · exact .inr ⟨xs, by rw [lkB_ne z] at q; exact q⟩
  · by_cases z : a = d
    · subst z; rw [upd_same] at e; cases e; exact (du : False).elim
    · rw [upd_ne z] at e
      rcases st.kt a xs e with q | q
      · exact .inl (lkB_iff.mp q)
      · exact .inr (by rw [lkB_ne z] at q; exact q)
  · by_cases z : a = d
    · subst z
      rcases r with r | ⟨ob, r, _⟩
      · rw [hF] at r; cases r; exact .inl upd_same
      · rw [hF] at r; cases r; exact (du : False).elim
    · rcases st.ok a v r with q | ⟨ob, q, nt⟩
      · exact .inl (by rw [upd_ne z]; exact q)
      · exact .inr ⟨ob, by rw [upd_ne z]; exact q, nt⟩

/-! ## for -/
def forGo (g : DenG) (body : DenS) : List D → En → Nat → Option (Ou × Nat)
  | [], ρ, n => some (.nx ρ, n)
  | d :: r, ρ, n => (g ρ d).bind fun ρ1 => (body ρ1 n).bind fun p => match p.1 with
    | .nx ρ2 => forGo g body r ρ2 p.2
    | .ct ρ2 => forGo g body r ρ2 p.2
    | .bk ρ2 => some (.nx ρ2, p.2)
    | .rt d => some (.rt d, p.2)
def forS (lk : List Nat) (src : DenA) (g : DenG) (body : DenS) : DenS := fun ρ n => (src (fzE lk ρ) n).bind fun p => forGo g body p.1 (fzE lk ρ) p.2
theorem forGo_cons {g : DenG} {body : DenS} {d : D} {r : List D} {ρ : En} {n : Nat} {res : Ou × Nat} (h : forGo g body (d :: r) ρ n = some res) : ∃ ρ1 p, g ρ d = some ρ1 ∧ body ρ1 n = some p ∧
    (match p.1 with | .nx ρ2 => forGo g body r ρ2 p.2 = some res | .ct ρ2 => forGo g body r ρ2 p.2 = some res | .bk ρ2 => res = (.nx ρ2, p.2) | .rt d => res = (.rt d, p.2)) := by
  unfold forGo at h
  cases e1 : g ρ d with
  | none => rw [e1] at h; cases h
  | some ρ1 =>
    rw [e1] at h
    simp only [Option.bind_some] at h
    cases e2 : body ρ1 n with
    | none => rw [e2] at h; cases h
    | some p =>
      rw [e2] at h
      simp only [Option.bind_some] at h
      refine ⟨ρ1, p, rfl, e2, ?_⟩
      obtain ⟨q, m⟩ := p
      cases q with
      | nx ρ2 => exact h
      | ct ρ2 => exact h
      | bk ρ2 => cases h; rfl
      | rt d => cases h; rfl
/-- the loop, its source read -/
theorem for_go {K : Frag} {wa : Option Addr} {o : Nat → Int} {J : It} {ds : List D} {F1 Hk : Hp} {A : Addr → Prop} {g : DenG} {ts : List Nat} {body : DenS} {tb : TS} {B : Bs} {ρ : En} {σ : L2.St} {n n' : Nat} {out : Ou} {D : L2.Ends} (it : IterOk K J ds (Pk F1 Hk A)) (hgo : GOk ts g) (hgf : GFr ts g)
    (hb : ∀ D σ H, tS K wa o body D σ H → tb D σ H) (hfb : ∀ a u, F1 a = some u → B.Fb a = some u) (hA : ∀ a, A a → B.A a ∧ B.Hb a = Hk a) (S : SE K wa o B F1 ρ σ Hk n) (hf : forGo g body ds ρ n = some (out, n')) (q : Res K wa o B n' D out) :
    ∃ W : Nat → Nat → L2.St → Hp → Prop, (∃ m, W 0 m σ Hk) ∧ ∀ i m σ H, W i m σ H →
      (J.stop i H ∧ D.nx σ H) ∨ (J.go i H ∧ ∃ N : L2.St → Hp → Prop, (∀ σ' H', N σ' H' → ∃ m', m' < m ∧ W (i + 1) m' σ' H') ∧ ∀ x H', J.yld i H x H' → tG K wa o ts g x σ H' fun σ2 H2 => tb { D with nx := N, ct := N, bk := D.nx } σ2 H2) := by
  refine ⟨fun i m σ H => i ≤ ds.length ∧ m = ds.length - i ∧ ∃ F ρ n, SE K wa o B F ρ σ H n ∧ forGo g body (ds.drop i) ρ n = some (out, n'), ⟨ds.length, Nat.zero_le _, rfl, F1, ρ, n, S, by rw [List.drop_zero]; exact hf⟩, ?_⟩
  rintro i m σ1 H1 ⟨hi, rfl, F2, ρ1, n1, S1, hgo1⟩
  have pk : Pk F1 Hk A F2 H1 := ⟨fun a u h => S1.sv.fb a u (hfb a u h), fun a ha => by
    obtain ⟨h1, h2⟩ := hA a ha
    rw [(S1.sv.kb a h1).2.2, h2]⟩
  by_cases hlt : i < ds.length
  · obtain ⟨hgo', hyl⟩ := it.item i F2 H1 S1.er.sb pk hlt
    rw [List.drop_eq_getElem_cons hlt] at hgo1
    obtain ⟨ρ2, p, g1, b1, hm⟩ := forGo_cons hgo1
    refine .inr ⟨hgo', fun σ' H' => i + 1 ≤ ds.length ∧ ∃ F ρ n, SE K wa o B F ρ σ' H' n ∧ forGo g body (ds.drop (i + 1)) ρ n = some (out, n'), fun σ' H' hN => ⟨ds.length - (i + 1), by omega, hN.1, rfl, hN.2⟩, fun x H3 hy => ?_⟩
    obtain ⟨F3, st3, rx⟩ := hyl x H3 hy
    have S3 : SE K wa o B F3 ρ1 σ1 H3 n1 := S1.step st3.wa (S1.er.step0 st3)
    have eget' : ds.getD i .none = ds[i] := by rw [List.getD_eq_getElem?_getD, List.getElem?_eq_getElem hlt] <;> rfl
    rw [eget'] at rx
    refine ⟨F3, ρ1, n1, ds[i], ρ2, S3.er, rx, g1, fun σ4 E4 o4 => hb _ _ _ ?_⟩
    obtain ⟨o1, m1⟩ := p
    refine ⟨B, F3, ρ2, n1, o1, m1, S3.tgt E4 hgo g1 o4 (hgf _ _ _ g1), b1, ?_⟩
    cases o1 with
    | nx ρ5 => exact fun F5 σ5 H5 S5 => ⟨hlt, F5, ρ5, m1, S5, hm⟩
    | ct ρ5 => exact fun F5 σ5 H5 S5 => ⟨hlt, F5, ρ5, m1, S5, hm⟩
    | bk ρ5 => cases (show (out, n') = (.nx ρ5, m1) from hm); exact q
    | rt d => cases (show (out, n') = (.rt d, m1) from hm); exact q
  · have hie : i = ds.length := by omega
    subst hie
    rw [List.drop_length] at hgo1
    cases hgo1
    exact .inl ⟨it.done _ F2 H1 S1.er.sb pk (Nat.le_refl _), q F2 σ1 H1 S1⟩
section
variable {X : Cx} {c : Dc} {e tg iter : Expr} {body : List Stmt} {lk ts : List Nat} {src : DenA} {wi : TI} {g : DenG} {b : DenS} {pos : Pos} {f : Den}
theorem ES_for (hp : PassesOwn (model X.prog X.w) X.A X.env X.xe) (hc : X.calm = true) (hi : SRC X c tg iter lk true src wi) (hg : EG X c tg ts g) (hgo : GOk ts g) (hgf : GFr ts g) (hb : ESs X c body b) : ES X c (.For tg iter body [] pos) (forS lk src g b) :=
  ⟨ps_weak (ps_unl (ps_for hp hc hi.pi hg.run hb.run (hi.fs X.env))) fun D σ H ⟨B, F, ρ, n, out, n', S, hf, q⟩ => by
    unfold forS at hf
    obtain ⟨F1, S1⟩ := S.fzE lk
    cases e1 : src (fzE lk ρ) n with
    | none => rw [e1] at hf; cases hf
    | some p =>
      rw [e1] at hf
      simp only [Option.bind_some] at hf
      refine hi.rd σ H _ F1 _ n p.1 p.2 S1.er (fzE_nl lk ρ) e1 fun J F2 H2 Hk A st2 E2 lck hA hx it => ?_
      have S2 : SE X.K c.wa c.o B F2 (fzE lk ρ) σ H2 p.2 := S1.step st2 E2
      rcases lck with rfl | ⟨d, od, u, hd, du, hw, rfl⟩
      · -- nothing locked
        have S3 : SE X.K c.wa c.o ⟨B.F0, B.H0, F2, Hk, fun a => B.A a ∨ A a⟩ F2 (fzE lk ρ) σ Hk p.2 := ⟨E2, ⟨S2.sv.st, fun _ _ h => h, fun a ha => ?_⟩, S2.ow⟩
        · refine for_go (B := ⟨B.F0, B.H0, F2, Hk, fun a => B.A a ∨ A a⟩) it hgo hgf (fun _ _ _ h => h) (fun _ _ h => h) (fun a ha => ⟨.inr ha, rfl⟩) S3 hf ?_
          have back : ∀ F' H', SV c.wa ⟨B.F0, B.H0, F2, Hk, fun a => B.A a ∨ A a⟩ F' H' → SV c.wa B F' H' := fun F' H' s => ⟨s.st, fun a u h => s.fb a u (S2.sv.fb a u h), fun a ha => by
            obtain ⟨k1, k2, k3⟩ := s.kb a (.inl ha)
            obtain ⟨j1, j2, j3⟩ := S2.sv.kb a ha
            exact ⟨k1, j2, k3.trans j3⟩⟩
          cases out with
          | nx ρ' => exact fun F' σ' H' s => .inl (q F' σ' H' ⟨s.er, back _ _ s.sv, s.ow⟩)
          | bk ρ' => exact fun F' σ' H' s => .inl (q F' σ' H' ⟨s.er, back _ _ s.sv, s.ow⟩)
          | ct ρ' => exact fun F' σ' H' s => .inl (q F' σ' H' ⟨s.er, back _ _ s.sv, s.ow⟩)
          | rt d => exact fun v F' H' s w r => .inl (q v F' H' (back _ _ s) w r)
        · rcases ha with ha | ha
          · obtain ⟨j1, ⟨ob, u, j2⟩, j3⟩ := S2.sv.kb a ha
            exact ⟨j1, ⟨ob, u, j3.trans j2⟩, rfl⟩
          · obtain ⟨j1, j2, j3⟩ := hA a ha
            exact ⟨j1, j3 rfl, rfl⟩
      · -- d is locked
        have hkd : (upd H2 d (.frz od u)) d = some (.frz od u) := upd_same
        have hF2 : F2 d = some u := by
          have z := hx rfl d (by rw [upd_same, hd]; intro z; cases z)
          cases e : F2 d with
          | none => exact absurd e z
          | some w =>
            rcases E2.sb d w (.inl e) with r | ⟨ob, r, _⟩
            · rw [hd] at r; cases r; rfl
            · rw [hd] at r; cases r; cases (du : False)
        have h0 : B.H0 d = none ∨ B.H0 d = some u := by
          cases e : B.H0 d with
          | none => exact .inl rfl
          | some w =>
            have := S2.sv.st.kp d w hw e
            rw [hd] at this
            cases this
            exact .inr rfl
        have nfd : ∀ o' u', u ≠ .frz o' u' := fun o' u' z => by rw [z] at du; cases (du : False)
        have S3 : SE X.K c.wa c.o ⟨B.F0, lkB B.H0 d (.frz od u), F2, upd H2 d (.frz od u), fun a => B.A a ∨ A a ∨ a = d⟩ F2 (fzE lk ρ) σ (upd H2 d (.frz od u)) p.2 := by
          refine ⟨E2.lock (.inr ⟨d, od, u, hd, du, hw, rfl⟩), ⟨S2.sv.st.lockB hd du hw, fun _ _ h => h, fun a ha => ?_⟩, fun i s h ho => ?_⟩
          · rcases ha with ha | ha | ha
            · obtain ⟨j1, ⟨ob, u', j2⟩, j3⟩ := S2.sv.kb a ha
              have z : a ≠ d := fun z => by subst z; rw [hd, j2] at j3; cases j3; exact nfd _ _ rfl
              exact ⟨j1, ⟨ob, u', by show upd H2 d _ a = _; rw [upd_ne z]; exact j3.trans j2⟩, rfl⟩
            · obtain ⟨j1, j2, j3⟩ := hA a ha
              exact ⟨j1, j3 rfl, rfl⟩
            · subst ha
              exact ⟨hw, ⟨od, u, upd_same⟩, rfl⟩
          · obtain ⟨a, w, k1, k2, k3, k4⟩ := S2.ow i s h ho
            obtain ⟨a', m1, m2, m3, m4⟩ := E2.addr h ho
            rw [k1] at m1
            cases m1
            have z : a ≠ d := fun z => by subst z; rw [hF2] at m3; cases m3
            exact ⟨a, w, k1, lkB_iff.mpr k2, by rw [upd_ne z]; exact k3, k4⟩
        refine for_go (B := ⟨B.F0, lkB B.H0 d (.frz od u), F2, upd H2 d (.frz od u), fun a => B.A a ∨ A a ∨ a = d⟩) it hgo hgf (fun _ _ _ h => h) (fun _ _ h => h) (fun a ha => ⟨.inr (.inl ha), rfl⟩) S3 hf ?_
        have fre : ∀ o' u', H d ≠ some (.frz o' u') := fun o' u' z => by
          have := (st2.kp d _ hw z)
          rw [hd] at this
          cases this
          exact nfd _ _ rfl
        have back : ∀ F' H', SV c.wa ⟨B.F0, lkB B.H0 d (.frz od u), F2, upd H2 d (.frz od u), fun a => B.A a ∨ A a ∨ a = d⟩ F' H' → H' d = some (.frz od u) ∧ SV c.wa B F' (upd H' d u) := fun F' H' s => by
          have hk : H' d = some (.frz od u) := (s.kb d (.inr (.inr rfl))).2.2.trans upd_same
          refine ⟨hk, Stp.unlockB h0 s.st hk du (s.fb d u hF2), fun a u h => s.fb a u (S2.sv.fb a u h), fun a ha => ?_⟩
          obtain ⟨k1, k2, k3⟩ := s.kb a (.inl ha)
          obtain ⟨j1, ⟨ob, u', j2⟩, j3⟩ := S2.sv.kb a ha
          have z : a ≠ d := fun z => by subst z; rw [hd, j2] at j3; cases j3; exact nfd _ _ rfl
          refine ⟨k1, ⟨ob, u', j2⟩, ?_⟩
          rw [upd_ne z, k3]
          show upd H2 d _ a = _
          rw [upd_ne z]
          exact j3
        have backE : ∀ F' ρ' σ' H', SE X.K c.wa c.o ⟨B.F0, lkB B.H0 d (.frz od u), F2, upd H2 d (.frz od u), fun a => B.A a ∨ A a ∨ a = d⟩ F' ρ' σ' H' n' → H' d = some (.frz od u) ∧ SE X.K c.wa c.o B F' ρ' σ' (upd H' d u) n' := fun F' ρ' σ' H' s => by
          obtain ⟨hk, sv⟩ := back F' H' s.sv
          refine ⟨hk, s.er.unlock hk du hw sv.st.ok, sv, fun i t h ho => ?_⟩
          obtain ⟨a, w, k1, k2, k3, k4⟩ := s.ow i t h ho
          have z : a ≠ d := fun z => by subst z; rw [hk] at k3; cases k3; exact k4 _ _ rfl
          exact ⟨a, w, k1, lkB_iff.mp k2, by rw [upd_ne z]; exact k3, k4⟩
        cases out with
        | nx ρ' => exact fun F' σ' H' s => .inr ⟨d, od, u, (backE _ _ _ _ s).1, fre, q F' σ' _ (backE _ _ _ _ s).2⟩
        | bk ρ' => exact fun F' σ' H' s => .inr ⟨d, od, u, (backE _ _ _ _ s).1, fre, q F' σ' _ (backE _ _ _ _ s).2⟩
        | ct ρ' => exact fun F' σ' H' s => .inr ⟨d, od, u, (backE _ _ _ _ s).1, fre, q F' σ' _ (backE _ _ _ _ s).2⟩
        | rt e => 
          intro v F' H' s w r
          obtain ⟨hk, sv⟩ := back F' H' s
          refine .inr ⟨d, od, u, hk, fre, q v F' _ sv ?_ r⟩
          cases hwa : c.wa with
          | none => exact True.intro
          | some cw =>
            rw [hwa] at w hw
            obtain ⟨f1, la, ds, q1, q2⟩ := w
            have z : cw ≠ d := fun e => hw (by rw [e])
            exact ⟨f1, la, ds, by rw [upd_ne z]; exact q1, q2⟩⟩

/-! ## while -/
def whGo (lk : List Nat) (t : Den) (body : DenS) : Nat → En → Nat → Option (Ou × Nat)
  | 0, _, _ => none
  | k + 1, ρ, n => (t (fzE lk ρ) n).bind fun p => match p.1 with
    | .bool false => some (.nx (fzE lk ρ), p.2)
    | .bool true => (body (fzE lk ρ) p.2).bind fun r => match r.1 with
      | .nx ρ2 => whGo lk t body k ρ2 r.2
      | .ct ρ2 => whGo lk t body k ρ2 r.2
      | .bk ρ2 => some (.nx ρ2, r.2)
      | .rt d => some (.rt d, r.2)
    | _ => none
def whS (fuel : Nat) (lk : List Nat) (t : Den) (body : DenS) : DenS := fun ρ n => whGo lk t body fuel ρ n
theorem ES_while {fuel : Nat} (hp : PassesOwn (model X.prog X.w) X.A X.env X.xe) (ht : ET X c e lk f) (hb : ESs X c body b) : ES X c (.While e body [] pos) (whS fuel lk f b) := ⟨ps_weak (ps_while hp ht.run hb.run) fun D σ H ⟨B, F, ρ, n, out, n', S, hf, q⟩ => by
  unfold whS at hf
  refine ⟨fun m σ H => ∃ F ρ n, SE X.K c.wa c.o B F ρ σ H n ∧ whGo lk f b m ρ n = some (out, n'), ⟨fuel, F, ρ, n, S, hf⟩, ?_⟩
  rintro m σ1 H1 ⟨F1, ρ1, n1, S1, hf1⟩
  cases m with
  | zero => cases hf1
  | succ m =>
    unfold whGo at hf1
    obtain ⟨F2, S2⟩ := S1.fzE lk
    cases e1 : f (fzE lk ρ1) n1 with
    | none => rw [e1] at hf1; cases hf1
    | some p =>
      rw [e1] at hf1
      simp only [Option.bind_some] at hf1
      obtain ⟨d, m1⟩ := p
      cases d with
      | bool bb =>
        refine ⟨F2, _, n1, bb, m1, S2.er, fzE_nl lk ρ1, e1, fun F3 H3 st3 E3 => ?_⟩
        have S3 := S2.step st3 E3
        cases bb with
        | false =>
          cases hf1
          exact iteF (q F3 σ1 H3 S3)
        | true =>
          simp only at hf1
          cases e2 : b (fzE lk ρ1) m1 with
          | none => rw [e2] at hf1; cases hf1
          | some r =>
            rw [e2] at hf1
            simp only [Option.bind_some] at hf1
            obtain ⟨o1, m2⟩ := r
            refine iteT ⟨fun σ' H' => ∃ F ρ n, SE X.K c.wa c.o B F ρ σ' H' n ∧ whGo lk f b m ρ n = some (out, n'), fun σ' H' h => ⟨m, Nat.lt_succ_self m, h⟩, B, F3, _, m1, o1, m2, S3, e2, ?_⟩
            cases o1 with
            | nx ρ5 => exact fun F5 σ5 H5 S5 => ⟨F5, ρ5, m2, S5, hf1⟩
            | ct ρ5 => exact fun F5 σ5 H5 S5 => ⟨F5, ρ5, m2, S5, hf1⟩
            | bk ρ5 => cases hf1; exact q
            | rt d => cases hf1; exact q
      | _ => cases hf1⟩
end
end WH

namespace WH
open PySem PySem.Spec PyProof.Rows L2
section
variable {K : Frag} {wa : Option Addr} {o : Nat → Int} {B : Bs} {F H F' H' : Hp} {ρ : En} {σ : L2.St} {n n' : Nat}
theorem Stp.turnNew {ex : Addr → Prop} {F0 H0 F H : Hp} {D : Addr} {o' : HO} (st : Stp ex F0 H0 F H) (h0 : H0 D = none) (hF : F D = none) (ht : notTup o') : Stp ex F0 H0 F (upd H D o') where
  kp := fun a u w e => by rw [upd_ne (ne_of_none e h0)]; exact st.kp a u w e
  kn := fun a e => by
    by_cases z : a = D
    · subst z; exact absurd h0 e
    · rw [upd_ne z]; exact st.kn a e
  fx := st.fx
  nw := st.nw
  kt := fun a xs e => by
    by_cases z : a = D
    · subst z; rw [upd_same] at e; cases e; exact ht.elim
    · rw [upd_ne z] at e; exact st.kt a xs e
  ok := fun a u r => by
    have z : a ≠ D := fun z => Rd.there r (z ▸ hF)
    rcases st.ok a u r with r | ⟨ob, r, nt⟩
    · exact .inl (by rw [upd_ne z]; exact r)
    · exact .inr ⟨ob, by rw [upd_ne z]; exact r, nt⟩
/-- a slot's own object turned into another -/
theorem SE.mut (S : SE K wa o B F ρ σ H n) {i : Nat} {s s' : Sl} {a : Addr} {u u' : HO} (h : eget ρ i = some s) (ho : s.own = true) (hσ : σ[i]? = some (some (.ref a))) (hH : H a = some u) (nt : notTup u') (nf : ∀ ob w, u' ≠ .frz ob w) (hu : ∀ ob w, u ≠ .frz ob w)
    (r : SR K wa F (upd H a u') s' (.ref a)) : SE K wa o B F (eset ρ i (some s')) σ (upd H a u') n := by
  obtain ⟨b, k1, hw, hF, _⟩ := S.er.addr h ho
  rw [hσ] at k1
  cases k1
  obtain ⟨b, v, k1, h0, k3, k4⟩ := S.ow i s h ho
  rw [hσ] at k1
  cases k1
  have out : ∀ j t, eget (eset ρ i none) j = some t → j ≠ i ∧ eget ρ j = some t := fun j t e => by
    have hj : j ≠ i := fun e' => by
      subst e'
      by_cases hl : j < ρ.length
      · rw [eget_eset_same hl] at e; cases e
      · rw [eset_none hl] at e
        exact hl (eget_lt e)
    rw [eget_eset_ne (Ne.symm hj)] at e
    exact ⟨hj, e⟩
  have E1 : ER K wa o F (eset ρ i none) σ H n := by
    have := S.er.wipe1 (i := i) (x := some (.ref a))
    rw [set_same hσ] at this
    exact this
  have al : ∀ j t, eget (eset ρ i none) j = some t → t.own = true → σ[j]? ≠ some (some (.ref a)) := fun j t e o' => by
    obtain ⟨hj, e⟩ := out j t e
    exact S.er.ap i j s t a (Ne.symm hj) h e ho o' hσ
  have E2 := E1.turn (u' := u') hF hH hu hw al
  have S2 : SE K wa o B F (eset ρ i none) σ (upd H a u') n := by
    refine ⟨E2, ⟨S.sv.st.turnNew h0 hF nt, S.sv.fb, fun c hc => ?_⟩, fun j t e o' => ?_⟩
    · obtain ⟨q1, ⟨ob, w, q2⟩, q3⟩ := S.sv.kb c hc
      have z : c ≠ a := fun z => by subst z; rw [q3, q2] at hH; cases hH; exact hu _ _ rfl
      exact ⟨q1, ⟨ob, w, q2⟩, by rw [upd_ne z]; exact q3⟩
    · obtain ⟨hj, e'⟩ := out j t e
      obtain ⟨c, w, q1, q2, q3, q4⟩ := S.ow j t e' o'
      have z : c ≠ a := fun z => by subst z; exact al j t e o' q1
      exact ⟨c, w, q1, q2, by rw [upd_ne z]; exact q3, q4⟩
  have S3 := S2.put (i := i) (s := s') r fun _ => ⟨a, u', rfl, h0, upd_same, nf, fun k t hk e o' => al k t e o'⟩
  rw [eset_eset, set_same hσ] at S3
  exact S3
/-- an own list, as it stands -/
theorem SE.lst (S : SE K wa o B F ρ σ H n) {i : Nat} {ds : List D} (h : eget ρ i = some (.ol ds)) : ∃ a xs, σ[i]? = some (some (.ref a)) ∧ H a = some (.lst xs) ∧ RDs K F xs ds ∧ wa ≠ some a ∧ F a = none := by
  obtain ⟨v, k1, a, xs, rfl, w, f, q, r⟩ := S.er.sl i _ h
  exact ⟨a, xs, k1, q, r, w, f⟩
theorem SE.dct (S : SE K wa o B F ρ σ H n) {i : Nat} {tk : Bool} {ps : List (D × D)} (h : eget ρ i = some (.od tk ps)) : ∃ a u, σ[i]? = some (some (.ref a)) ∧ H a = some u ∧ DO K F tk u ps ∧ wa ≠ some a ∧ F a = none ∧ (∀ ob w, u ≠ .frz ob w) := by
  obtain ⟨v, k1, a, o', rfl, w, f, q, r⟩ := S.er.sl i _ h
  obtain ⟨b, u, m1, m2, m3, m4⟩ := S.ow i _ h rfl
  rw [k1] at m1
  cases m1
  have q' : H a = some o' := by
    rcases q with q | ⟨ob, q, _⟩
    · exact q
    · rw [q] at m3; cases m3; exact absurd rfl (m4 _ _)
  rw [q'] at m3
  cases m3
  exact ⟨a, o', k1, q', r, w, f, m4⟩
end
section
variable {X : Cx} {c : Dc} {e o value : Expr} {lk lv : List Nat} {f fk fv : Den} {pos : Pos} {i : Nat}
/-! ### d[k] = v -/
def dputS (i : Nat) (lv lk : List Nat) (fv fk : Den) : DenS := fun ρ n => (fv (fzE (lv ++ lk) ρ) n).bind fun p => match eget (fzE (lv ++ lk) ρ) i with
  | some (.od tk ps) => (fk (fzE (lv ++ lk) ρ) p.2).bind fun q => (dput tk ps q.1 p.1).map fun ps' => (.nx (eset (fzE (lv ++ lk) ρ) i (some (.od tk ps'))), q.2)
  | _ => none
theorem DO.nf {K : Frag} {F : Hp} {tk : Bool} {u : HO} {ps : List (D × D)} (h : DO K F tk u ps) : ∀ ob w, u ≠ .frz ob w := fun ob w z => by
  cases tk with
  | false => obtain ⟨kvs, e, _⟩ := h; rw [e] at z; cases z
  | true => obtain ⟨kvs, e, _⟩ := h; rw [e] at z; cases z
structure EV (X : Cx) (e : Expr) (i : Nat) : Prop where
  run : PE X e (tVar i)
theorem EV_var {x : Str} (hN : X.N[i]? = some x) (hv : Vis X.env.scope x) (hd : (x == ("__debug__" : Str)) = false) (hcd : (x == ("__classdict__" : Str)) = false) : EV X (.Name x pos) i := ⟨pe_var hN hv hd hcd⟩
theorem ES_dput {ox ke : Expr} {pos' : Pos} (hu : X.A.units + 1 < cLine) (ho : EV X ox i) (hk : EX X c ke lk .no fk) (hv : EX X c value lv .no fv) (hs : swapsWith value (some (.Subscript ox ke pos')) pos.line X.env = pure false) :
    ES X c (.Assign [.Subscript ox ke pos'] value pos) (dputS i lv lk fv fk) := ⟨ps_weak (ps_dput hu ho.run hk.run hv.run hs) fun D σ H ⟨B, F, ρ, n, out, n', S, hf, q⟩ => by
  unfold dputS at hf
  obtain ⟨F1, S1⟩ := S.fzE (lv ++ lk)
  have hl := fzE_nl (lv ++ lk) ρ
  cases e1 : fv (fzE (lv ++ lk) ρ) n with
  | none => rw [e1] at hf; cases hf
  | some p =>
    rw [e1] at hf
    simp only [Option.bind_some] at hf
    split at hf
    · rename_i tk ps es
      cases e2 : fk (fzE (lv ++ lk) ρ) p.2 with
      | none => rw [e2] at hf; cases hf
      | some r =>
        rw [e2] at hf
        simp only [Option.bind_some] at hf
        cases e3 : dput tk ps r.1 p.1 with
        | none => rw [e3] at hf; cases hf
        | some ps' =>
          rw [e3] at hf
          cases hf
          refine ⟨F1, _, n, p.1, p.2, S1.er, nl_l hl, e1, fun v F2 H2 st2 E2 r2 => ?_⟩
          obtain ⟨v', m1, a', u', rfl, _⟩ := E2.sl i _ es
          refine ⟨.ref a', m1, F2, _, p.2, r.1, r.2, E2, nl_r hl, e2, fun y F4 H4 st4 E4 r4 => ?_⟩
          have S4 := (S1.step st2 E2).step st4 E4
          obtain ⟨a, u, k1, k2, k3, k4, k5, k6⟩ := S4.dct es
          rw [m1] at k1
          cases k1
          obtain ⟨o', d1, d2⟩ := dput_spec E4.sb k2 k3 r4.1 (RD.mono st4.sb r2.1) e3
          exact ⟨a', _, rfl, d1, q F4 σ _ (S4.mut es rfl m1 k2 d2.notTup d2.nf k6 (s' := .od tk ps') ⟨a', o', rfl, k4, k5, .inl upd_same, d2⟩)⟩
    · cases hf⟩
/-! ### x.append(e), x.extend(e) -/
def appS (i : Nat) (lk : List Nat) (f : Den) : DenS := fun ρ n => match eget (fzE lk ρ) i with
  | some (.ol ds) => (f (fzE lk ρ) n).bind fun p => if ds.length < LIM then some (.nx (eset (fzE lk ρ) i (some (.ol (ds ++ [p.1])))), p.2) else none
  | _ => none
theorem ES_append {ox : Expr} {apos cpos : Pos} (ho : EV X ox i) (he : EX X c e lk .no f) (hs : swapsWith (.Call (.Attribute ox "append" apos) [e] [] cpos) none pos.line X.env = pure false)
    (hbase : attributeBase ox "append" X.env (eval ox X.env) = eval ox X.env)
    (hfew : ((backTo cpos (starEach [e] X.env)).all (fun x => !x.1) && (backToKw cpos (keywordEach [] X.env)).all (fun x => x.1.isSome)
      && decide ([e].length + ([] : List Keyword).length + (if ([] : List Keyword).isEmpty then 0 else 1) < 30)) = true)
    (hline : (apos.endLine == cpos.line) = true) (h1 : notStar e = true) : ES X c (.Expr (.Call (.Attribute ox "append" apos) [e] [] cpos) pos) (appS i lk f) :=
  ⟨ps_weak (ps_expr (pe_bm PySem.F.plainAttrs_list PySem.F.slot_list_append PySem.F.type_list_append mt_append ho.run (pa_cons he.run pa_nil (starEach_cons h1)) hbase hfew hline (starEach_cons h1) rfl) hs) fun D σ H ⟨B, F, ρ, n, out, n', S, hf, q⟩ => by
  unfold appS at hf
  obtain ⟨F1, S1⟩ := S.fzE lk
  have hl := fzE_nl lk ρ
  split at hf
  · rename_i ds es
    cases e1 : f (fzE lk ρ) n with
    | none => rw [e1] at hf; cases hf
    | some p =>
      rw [e1] at hf
      simp only [Option.bind_some] at hf
      split at hf
      · rename_i hz
        cases hf
        obtain ⟨a, xs, k1, k2, k3, _⟩ := S1.lst es
        refine ⟨.ref a, k1, .inl ⟨rfl, xs, .of k2⟩, F1, _, n, p.1, p.2, S1.er, hl, e1, fun v F2 H2 st2 E2 r2 => ?_⟩
        have S2 := S1.step st2 E2
        obtain ⟨a', ys, m1, m2, m3, m4, m5⟩ := S2.lst es
        rw [k1] at m1
        cases m1
        refine ⟨a, ys, v, rfl, rfl, m2, ?_, q F2 σ _ (S2.mut es rfl k1 m2 trivial (fun _ _ z => nomatch z) (fun _ _ z => nomatch z) (s' := .ol (ds ++ [p.1])) ⟨a, _, rfl, m4, m5, upd_same, m3.append (.cons r2.1 .nil)⟩)⟩
        rw [m3.length, sizeLine_eq]
        unfold LIM at hz
        omega
      · cases hf
  · cases hf⟩
theorem mt_extendS : MtM X "list.extend" (fun x vs H Q => ∃ l b xs zs, x = .ref l ∧ vs = [.ref b] ∧ H l = some (.lst xs) ∧ Rd H b (.lst zs) ∧ xs.length + zs.length ≤ sizeLine ∧ Q .non (upd H l (.lst (xs ++ zs)))) := by
  intro pins s σ H x vs v us Q I rx rv h
  obtain ⟨l, b, xs, zs, rfl, rfl, hH, hB, hz, q⟩ := h
  cases rx
  obtain ⟨u, rfl, ru⟩ := rv.one
  cases ru
  obtain ⟨z, its, n, r, hl, e⟩ := I.lstM hH
  obtain ⟨z2, its2, n2, r2, e2⟩ := hB.ok I.hok
  have hl2 := r2.length
  have hsz : its.toArray.size + its2.toArray.size ≤ sizeLine := by rw [List.size_toArray, List.size_toArray]; omega
  have hlong : ¬ (!its.toArray.isEmpty && Builtin.List.listTooLong (its.toArray.size + its2.toArray.size)) = true := by
    rw [notLongL hsz, Bool.and_false]
    exact Bool.false_ne_true
  refine call_meets F.slot_list_extend ⟨_, e, rfl⟩ F.entry_list_extend (F.args_list_extend_2 _ _)
    (AutoSeq1.list_extend_list_list_0 l its.toArray n b its2.toArray n2 hlong (by rw [List.size_toArray]; omega) (by omega)) ⟨e, e2, ?_⟩
  refine ⟨.non, _, I.lset (its' := its ++ its2) hH e (by simp) (r.append r2) ?_, rfl, q⟩
  rw [List.length_append]
  omega
def extS (i : Nat) (lk : List Nat) (f : Den) : DenS := fun ρ n => match eget (fzE lk ρ) i with
  | some (.ol ds) => (f (fzE lk ρ) n).bind fun p => match p.1 with
    | .list es => if ds.length + es.length ≤ LIM then some (.nx (eset (fzE lk ρ) i (some (.ol (ds ++ es)))), p.2) else none
    | _ => none
  | _ => none
theorem ES_extend {ox : Expr} {apos cpos : Pos} (ho : EV X ox i) (he : EX X c e lk .no f) (hs : swapsWith (.Call (.Attribute ox "extend" apos) [e] [] cpos) none pos.line X.env = pure false)
    (hbase : attributeBase ox "extend" X.env (eval ox X.env) = eval ox X.env)
    (hfew : ((backTo cpos (starEach [e] X.env)).all (fun x => !x.1) && (backToKw cpos (keywordEach [] X.env)).all (fun x => x.1.isSome)
      && decide ([e].length + ([] : List Keyword).length + (if ([] : List Keyword).isEmpty then 0 else 1) < 30)) = true)
    (hline : (apos.endLine == cpos.line) = true) (h1 : notStar e = true) : ES X c (.Expr (.Call (.Attribute ox "extend" apos) [e] [] cpos) pos) (extS i lk f) :=
  ⟨ps_weak (ps_expr (pe_bm PySem.F.plainAttrs_list PySem.F.slot_list_extend PySem.F.type_list_extend mt_extendS ho.run (pa_cons he.run pa_nil (starEach_cons h1)) hbase hfew hline (starEach_cons h1) rfl) hs) fun D σ H ⟨B, F, ρ, n, out, n', S, hf, q⟩ => by
  unfold extS at hf
  obtain ⟨F1, S1⟩ := S.fzE lk
  have hl := fzE_nl lk ρ
  split at hf
  · rename_i ds es
    cases e1 : f (fzE lk ρ) n with
    | none => rw [e1] at hf; cases hf
    | some p =>
      rw [e1] at hf
      simp only [Option.bind_some] at hf
      split at hf
      · rename_i es2 ep
        split at hf
        · rename_i hz
          cases hf
          obtain ⟨a, xs, k1, k2, k3, _⟩ := S1.lst es
          refine ⟨.ref a, k1, .inl ⟨rfl, xs, .of k2⟩, F1, _, n, p.1, p.2, S1.er, hl, e1, fun v F2 H2 st2 E2 r2 => ?_⟩
          have S2 := S1.step st2 E2
          obtain ⟨a', ys, m1, m2, m3, m4, m5⟩ := S2.lst es
          rw [k1] at m1
          cases m1
          have r3 : RD X.K F2 v p.1 := r2.1
          rw [ep] at r3
          cases r3 with
          | @lst b zs _ r3 r4 =>
            refine ⟨a, b, ys, zs, rfl, rfl, m2, (E2.sb _ _ r3).rd, ?_, q F2 σ _ (S2.mut es rfl k1 m2 trivial (fun _ _ z => nomatch z) (fun _ _ z => nomatch z) (s' := .ol (ds ++ es2)) ⟨a, _, rfl, m4, m5, upd_same, m3.append r4⟩)⟩
            rw [m3.length, r4.length, sizeLine_eq]
            unfold LIM at hz
            omega
        · cases hf
      · cases hf
  · cases hf⟩

/-! ### a def -/
def fnD (nn : Nat) (body : DenS) : List D → Option D := fun ds => (body (ds.map (fun d => some (.fr d)) ++ List.replicate (nn - ds.length) none) 0).bind fun p => match p.1 with
  | .rt d => some d
  | .nx _ => some .none
  | _ => none
theorem eget_frs {ds : List D} {k i : Nat} {s : Sl} : eget (ds.map (fun d => some (Sl.fr d)) ++ List.replicate k none) i = some s → ∃ d, ds[i]? = some d ∧ s = .fr d := by
  induction ds generalizing i with
  | nil =>
    intro h
    exfalso
    have : ∀ (k i : Nat), eget (List.replicate k none) i = none := fun k => by
      induction k with
      | zero => exact fun _ => rfl
      | succ k ih => exact fun i => by cases i with
        | zero => rfl
        | succ i => exact ih i
    have h' : eget (List.replicate k none) i = some s := h
    rw [this] at h'
    cases h'
  | cons d ds ih =>
    intro h
    cases i with
    | zero => cases h; exact ⟨d, rfl, rfl⟩
    | succ i => obtain ⟨e, h1, h2⟩ := ih h; exact ⟨e, by simpa using h1, h2⟩
theorem ER.start {K : Frag} {o : Nat → Int} {F H : Hp} {N : List Str} {vs : List V} {ds : List D} (sb : Sb F H) (r : RDs K F vs ds) (hl : ds.length ≤ N.length) : ER K none o F (ds.map (fun d => some (.fr d)) ++ List.replicate (N.length - ds.length) none) (start N vs) H 0 := by
  refine ⟨sb, fun i s h => ?_, fun i j s t a hij h1 h2 o1 o2 => ?_, True.intro, ?_⟩
  · obtain ⟨d, h1, rfl⟩ := eget_frs h
    obtain ⟨v, h2, h3⟩ := r.get h1
    refine ⟨v, ?_, h3⟩
    unfold L2.start
    have hi : i < vs.length := by
      rcases Nat.lt_or_ge i vs.length with q | q
      · exact q
      · rw [List.getElem?_eq_none q] at h2; cases h2
    rw [List.getElem?_append_left (by rw [List.length_map]; exact hi), List.getElem?_map, h2] <;> rfl
  · obtain ⟨d, _, rfl⟩ := eget_frs h1
    cases o1
  · unfold L2.start
    rw [List.length_append, List.length_append, List.length_map, List.length_map, List.length_replicate, List.length_replicate, r.length]
theorem ok_fn {P : Program} {w : World} {K : Frag} {mg : Str → Option Value} {base : Heap} {x qual : Str} {st : Stmt} {fa : Addr} {fd : FuncData} {N ps : List Str} {k : Nat} {body : DenS} (F : Fun K x qual st fa fd) (S : FnScope N ps (defScope st))
    (hb : ∀ (cdv : Value) (A : Around) (outer : List Env) (s : Shared) (H : Hp) (E : XK), Room k (A.deeper (envOfC qual (defScope st) s.heap.objs.size fa cdv)) → ESs (cxOf CX0 P w K mg base N qual (defScope st) fa cdv A outer s H E).nox ⟨none, fun _ => 0⟩ (defBody st) body) :
    FnOk P w K mg base CX0 (k + 1) fa fd ps (spF K (fnD N.length body) ps.length) := by
  refine F.ok S (fun vs H Q E h => h.1) fun cdv A outer s H vs Q E hr h => ⟨_, (hb cdv A outer s H E hr).run, ?_⟩
  obtain ⟨hl, F, ds, d, sb, r, hf, q⟩ := h
  unfold fnD at hf
  have hpl : ps.length ≤ N.length := by have := congrArg List.length S.pre; rw [List.length_take] at this; omega
  have hdl : ds.length = ps.length := by rw [← r.length]; exact hl
  cases e1 : body (ds.map (fun d => some (.fr d)) ++ List.replicate (N.length - ds.length) none) 0 with
  | none => rw [e1] at hf; cases hf
  | some p =>
    rw [e1] at hf
    simp only [Option.bind_some] at hf
    obtain ⟨out, n'⟩ := p
    have nx : ∀ a, ¬ Wx none a := fun a z => nomatch z
    refine ⟨⟨F, H, fun _ => none, H, fun _ => False⟩, F, _, 0, out, n', ⟨ER.start sb r (by omega), ⟨.refl sb, (fun _ _ h => nomatch h), (fun _ h => False.elim h)⟩, fun i s h ho => ?_⟩, e1, ?_⟩
    · obtain ⟨d, _, rfl⟩ := eget_frs h
      cases ho
    · cases out with
      | nx ρ' => cases hf; exact fun F' σ' H' s => q .non F' H' (s.sv.st.mono fun a z => nomatch z) .non
      | rt d' => cases hf; exact fun v F' H' s w r => q v F' H' (s.st.mono fun a z => nomatch z) r
      | bk ρ' => cases hf
      | ct ρ' => cases hf
end
end WH

namespace WH
open PySem PySem.Spec PyProof.Rows L2
/-! ## set(a list of ints), as the sorted walk wants it -/
section
variable {P : Program} {w : World} {A : Around} {E : Value → Shared → Prop} {s : Shared}
/-- the new set's object -/
abbrev nset (w : World) : Obj := { cls := .type "set", dict := none, data := .set #[] 0 (.fresh 0 0 (!w.params.followText "set-order")) }
theorem set_of_list {l : Addr} {its : Array Value} (ns : List Int) {Q : Value → Shared → Prop} (hh : A.handled = none) (hl : s.heap.IsList l its) (hi : IntsAre its.toList ns) (hb : ns.length + 1 < scanBound)
    (h : ∀ (h2 : Heap) (tk c : Nat), SetR w h2 s.heap.objs.size (fun j => decide (j ∈ ns)) c → c ≤ ns.length → (∀ b o, s.heap.get? b = some o → h2.get? b = some o) → Q (.ref s.heap.objs.size) { s with heap := h2, toks := tk }) :
    wpAny (model P w) A (call (.type "set") [.ref l]) Q E s := by
  have sz : its.size = ns.length := (Array.length_toList (xs := its)).symm.trans (IntsAre.length hi)
  obtain ⟨c, tl, hmro⟩ := F.called_set.mro; have hmade := F.called_set.made; have hsub := F.called_set.sub
  refine wpAny_call (codeAny_of_tree (show wpAny _ _ (callAny (.type "set") _) _ _ _ from ?_))
  refine wpAny_pure ⟨Code.quiet_builtin _ (by decide +kernel), codeAny_builtin F.entry_type_call ?_⟩
  rw [Around.under_plain (weight_type_call_type "set" [.ref l] []) rfl]
  have k1 := F.called_set.notType; have k2 := F.called_set.canCreate; have k3 := F.typeCall_set_1 (.ref l)
  repeat (any_goals (first | assumption | wp_step))
  refine codeAny_mono (code_set_led1 (.ref l) (E := E) (Q₁ := fun v t => v = .ref s.heap.objs.size ∧ t = { s with heap := s.heap.push (nset w) }) ⟨rfl, rfl⟩) fun r t1 q1 => ?_
  cases r with
  | error e => exact q1
  | ok fl =>
    cases fl with
    | ret obj =>
      obtain ⟨rfl, rfl⟩ := q1
      have hS : (s.heap.push (nset w)).get? s.heap.objs.size = some (nset w) := Heap.get?_push_size _ rfl
      have hT : Shared.TypeIs { s with heap := s.heap.push (nset w) } (.ref s.heap.objs.size) "set" := ⟨_, hS, rfl⟩
      have hli := F.called_set.init.lookup; have hbi := F.called_set.init.bind (.ref s.heap.objs.size)
      repeat (any_goals (first | assumption | wp_step))
      refine codeAny_mono (codeAny_call_builtin (R := wants (fun v t2 => v = .none ∧ ∃ h2 tk c, t2 = { s with heap := h2, toks := tk } ∧ SetR w h2 s.heap.objs.size (fun j => decide (j ∈ ns)) c ∧ c ≤ ns.length ∧ ∀ b o, s.heap.get? b = some o → h2.get? b = some o) E)
        F.called_set.init.plain F.entry_set_init (check_set_init_1 hT ?_)) fun r2 t2 q2 => ?_
      · obtain ⟨⟨ocls, odict, odata, oslots⟩, hol, hcl, nl, hdl⟩ := hl
        simp only at hcl hdl; subst hcl; subst hdl
        have hol2 := Heap.get?_push_of_some (nset w) hol
        have z1 := F.sub_list_set; have z2 := F.sub_list_frozenset
        have z3 : (Value.type "list" == Value.type "dict") = false := by decide
        have hl1 : (s.heap.push (nset w)).IsList l its := ⟨_, hol2, rfl, nl, rfl⟩
        unfold Builtin.«set.__init__» noKeywords Builtin.Frozenset.updateFrom
        generalize hPI : pyIter = PI
        wp_walk
        subst hPI
        refine wpAny_pyIter_list hl1 (wpAny_bind (wpAny_runValue ?_))
        have lt : l < s.heap.objs.size := Heap.lt_size hol
        have h3 : A.in1.in1.in1.handled = none := by simp [hh]
        have ne : l ≠ (s.heap.push (nset w)).objs.size := by rw [Heap.size_push]; exact Nat.ne_of_lt (Nat.lt_succ_of_lt lt)
        have nf : s.heap.objs.size ∉ [(s.heap.push (nset w)).objs.size, l] := by
          rw [Heap.size_push]
          intro z
          rcases List.mem_cons.mp z with z | z
          · exact absurd z (Nat.ne_of_lt (Nat.lt_succ_self _))
          · exact absurd (List.mem_singleton.mp z) (Nat.ne_of_gt lt)
        have hv : ∀ (i : Nat) (v : Value), its[i]? = some v → ∃ k t, ns[i]? = some k ∧ v = .int k t := fun i v e1 => by
          have lt : i < ns.length := sz ▸ (Array.getElem?_eq_some_iff.mp e1).1
          obtain ⟨t, e2⟩ := PyProof.Rows.IntsAre.int_at hi i v ((Array.getElem?_toList ..).trans e1)
          exact ⟨ns[i], t, List.getElem?_eq_getElem lt, by rw [e2, List.getD_eq_getElem?_getD, List.getElem?_eq_getElem lt] <;> rfl⟩
        refine set_update_ints ((Walks.list h3 _ l ne its).toS) s.heap.objs.size nf ns sz hb hv (its.size - 0) 0 _ (by omega) (Nat.zero_le _) ⟨⟨_, Heap.get?_push_size _ rfl, rfl, rfl⟩, hl1.push _⟩ ⟨0, Nat.le_refl 0, setR_new_at (Heap.get?_push_of_some _ hS)⟩ ?_
        rintro ⟨h2, g2, d2, tk2, os2⟩ c2 hm hc2 hR
        cases (show g2 = s.gens from hm.gens); cases (show d2 = s.drawn from hm.drawn); cases (show os2 = s.os from hm.os)
        refine wpAny_pure ?_
        show wpAny _ _ (ret Value.none) _ _ _
        refine wpAny_pure ⟨rfl, h2, tk2, c2, rfl, hR, by rw [← sz]; exact hc2, fun b o e => ?_⟩
        have b0 := Heap.lt_size e
        refine hm.heap b o (fun z => ?_) (Heap.get?_push_of_some _ (Heap.get?_push_of_some _ e))
        rcases List.mem_cons.mp z with z | z
        · exact absurd z (Nat.ne_of_lt b0)
        · have y := List.mem_singleton.mp z
          rw [Heap.size_push] at y
          exact absurd y (Nat.ne_of_lt (Nat.lt_succ_of_lt b0))
      · cases r2 with
        | error e => exact q2
        | ok fl2 =>
          cases fl2 with
          | ret v =>
            obtain ⟨rfl, h2, tk, c2, rfl, p1, p2, p3⟩ := q2
            repeat (any_goals (first | assumption | wp_step))
            exact h _ _ _ p1 p2 p3
          | _ => exact q2.elim
    | _ => exact q1.elim
end
end WH

namespace WH
open PySem PySem.Spec PyProof.Rows L2

/-! ## isinstance -/
def tyD : D → Option String
  | .none => some "NoneType"
  | .bool _ => some "bool"
  | .int _ => some "int"
  | .str _ => some "str"
  | .list _ => some "list"
  | .tuple _ => some "tuple"
  | .dict ((.tuple _, _) :: _) => none
  | .dict (_ :: _) => some "dict"
  | .dict [] => none
def isiB (T t : String) : Bool := t == T || (t == "bool" && T == "int")
def isiD (T : String) : D → Option D := fun d => (tyD d).map fun t => .bool (isiB T t)
theorem kitB_ok : ∀ T, T ∈ ["int", "bool", "str", "tuple", "list", "dict"] → ∀ t, t ∈ ["bool", "int", "str", "list", "tuple", "dict"] → kitB t T = some (isiB T t) := by decide +kernel
theorem RD.tyX {K : Frag} {H : Hp} {v : V} {d : D} {t : String} (r : RD K H v d) (e : tyD d = some t) (hn : d ≠ .none) : TyX K H v (.type t) ∧ t ∈ ["bool", "int", "str", "list", "tuple", "dict"] := by
  cases r with
  | non => exact absurd rfl hn
  | bl b => cases e; exact ⟨.base (.bl b), by decide⟩
  | int b => cases e; exact ⟨.base (.int b), by decide⟩
  | str b => cases e; exact ⟨.base (.str b), by decide⟩
  | lst q r =>
    cases e
    rcases q with q | ⟨ob, q, _⟩
    · exact ⟨.base (.lst q), by decide⟩
    · exact ⟨.base (.frz q), by decide⟩
  | tup q r => cases e; exact ⟨.base (.tup q), by decide⟩
  | @dk a kvs ps q r =>
    cases r with
    | nil => cases e
    | cons q2 r2 =>
      have : t = "dict" := by
        rename_i k v d kvs ps
        cases k with
        | inl i => cases e; rfl
        | inr x => cases e; rfl
      subst this
      rcases q with q | ⟨ob, q, _⟩
      · exact ⟨.base (.dK q), by decide⟩
      · exact ⟨.fDict q, by decide⟩
  | dt q r =>
    cases r with
    | nil => cases e
    | cons q2 r2 => cases e
def isiV (T : String) (f : DenB) : Den := un1 (fun d => match d with | .none => none | d => isiD T d) f
section
variable {X : Cx} {c : Dc} {e : Expr} {la : List Nat} {f : DenB} {p p2 pos : Pos}
theorem EX_isi {T : String} {xT : Str} (hT : T ∈ ["int", "bool", "str", "tuple", "list", "dict"]) (hg : Gl X "isinstance") (hm : X.mg "isinstance" = none) (hg2 : Gl X xT) (hm2 : X.mg xT = none) (hv : bootBuiltins xT = some (.type T)) (he : EB X c e la f) (hn : xT ≠ "__name__")
    (hd : (xT == ("__debug__" : Str)) = false) (h1 : notStar e = true) : EX X c (.Call (.Name "isinstance" p) [e, .Name xT p2] [] pos) la .no (isiV T f) :=
  ⟨pe_weak (pe_callB call_isi hg hm (by decide +kernel) (pa_cons he.run (pa_cons (pe_bltn (v := .ty T) hg2 hm2 hv rfl hn hd) pa_nil) (starEach_cons h1)) (by decide) (by decide) (starEach_cons h1) (starEach_plain (by rfl))) fun σ H Q ⟨F, ρ, n, d, n', E, hl, hf, q⟩ => by
    obtain ⟨s, x, e1, e2, e3⟩ := un1_inv hf
    refine ⟨F, ρ, n, s, n', E, hl, e1, fun v F1 H1 st1 E1 r1 => ?_⟩
    have rd : RD X.K H1 v x := (r1.br e2).deep E1.sb
    have hx : x ≠ .none := fun z => by rw [z] at e3; cases e3
    have e4 : isiD T x = some d := by
      cases x <;> first | exact e3 | exact absurd rfl hx
    unfold isiD at e4
    cases e5 : tyD x with
    | none => rw [e5] at e4; cases e4
    | some t =>
      rw [e5] at e4
      cases e4
      obtain ⟨tx, ht⟩ := rd.tyX e5 hx
      exact ⟨v, .ty T, _, _, isiB T t, rfl, .ty T, tx, kit_ty (kitB_ok T hT t ht), q _ F1 H1 st1 E1 ⟨.bl _, fun z => nomatch z⟩⟩⟩
end

/-! ## sorted(a list of data) -/
def isTupNE : D → Bool
  | .tuple (_ :: _) => true
  | _ => false
def notTN : D → Bool
  | .tuple _ => false
  | .none => false
  | _ => true
def sortD : List D → Option D
  | [.list ds] => if okAll ds && (ds.all isTupNE || ds.all notTN) then some (.list (ds.mergeSort (PySem.W.dataLe false id))) else none
  | _ => none
theorem each_of_all {α β : Type} {R S : α → β → Prop} (h : ∀ a b, R a b → S a b) : ∀ {l : List α} {m : List β}, PySem.W.EachIs R l m → PySem.W.EachIs S l m
  | _, _, .nil => .nil
  | _, _, .cons q r => .cons (h _ _ q) (each_of_all h r)
theorem zip_each {K : Frag} {F : Hp} : ∀ {vs : List V} {us : List Value} {ds : List D}, Vals vs us → RDs K F vs ds → PySem.W.EachIs (fun u (p : V × D) => RelV p.1 u ∧ RD K F p.1 p.2) us (vs.zip ds)
  | _, _, _, .nil, .nil => .nil
  | _, _, _, .cons r rr, .cons q qq => .cons ⟨r, q⟩ (zip_each rr qq)
theorem each_vals {K : Frag} {F : Hp} : ∀ {us : List Value} {ps : List (V × D)}, PySem.W.EachIs (fun u (p : V × D) => RelV p.1 u ∧ RD K F p.1 p.2) us ps → Vals (ps.map Prod.fst) us ∧ RDs K F (ps.map Prod.fst) (ps.map Prod.snd)
  | _, _, .nil => ⟨.nil, .nil⟩
  | _, _, .cons q r => let ⟨h1, h2⟩ := each_vals r; ⟨.cons q.1 h1, .cons q.2 h2⟩
theorem zip_reads {X : Cx} {pins : List (Addr × Obj)} {s : Shared} {σ : L2.St} {H : Hp} (I : L2.Inv X pins σ H s) : ∀ {vs : List V} {us : List Value} {ds : List D}, Vals vs us → RDs X.K H vs ds → PyData.plainAll ds = true → PySem.W.EachIs (fun u (p : V × D) => ∃ as, Reads s.heap u p.2 as) us (vs.zip ds)
  | _, _, _, .nil, .nil, _ => .nil
  | _, _, _, .cons r rr, .cons (d := d) (ds := ds) q qq, h => by
    have h' : d.plain = true ∧ PyData.plainAll ds = true := by simpa [PyData.plainAll] using h
    exact .cons (Dp.reads I d _ _ (RD.dp d q h'.1) r) (zip_reads I rr qq h'.2)
theorem depth_mem : ∀ {ds : List D} {d : D}, d ∈ ds → d.depth ≤ PyData.depthAll ds
  | x :: r, d, h => by
    unfold PyData.depthAll
    rcases List.mem_cons.mp h with z | z
    · subst z; exact Nat.le_max_left _ _
    · exact Nat.le_trans (depth_mem z) (Nat.le_max_right _ _)
theorem map_snd_zip {α β : Type} : ∀ {l : List α} {m : List β}, l.length = m.length → (l.zip m).map Prod.snd = m
  | [], [], _ => rfl
  | _ :: l, _ :: m, h => congrArg (_ :: ·) (map_snd_zip (l := l) (m := m) (by simpa using h))
theorem c_sorted {X : Cx} (hu : X.A.units + 64 < cLine) : CallR X (.builtin "sorted") (rDn X.K sortD (.own false)) := fun pins s σ H vs us Q I rv ⟨F, ds, r, sb, hb, hh, q⟩ => by
  unfold sortD at hh
  split at hh
  · rename_i es
    split at hh
    · rename_i hz
      cases hh
      rw [Bool.and_eq_true, Bool.or_eq_true] at hz
      obtain ⟨⟨h1, h2⟩, h3, h4⟩ := okAll_spec hz.1
      obtain ⟨v, rfl, b1⟩ := brs1 hb
      obtain ⟨a, xs, rfl, q1, r1⟩ := b1.list sb
      obtain ⟨its, rvs, hl, hzz⟩ := I.list (.inl q1)
      rw [Vals.ref1 rv]
      have hlen : xs.length = es.length := r1.length
      have hsnd : (xs.zip es).map Prod.snd = es := map_snd_zip hlen
      refine PySem.W.sorted_data (bs := xs.zip es) (enc := Prod.snd) (R := fun u (p : V × D) => RelV p.1 u ∧ RD X.K F p.1 p.2) hl.isList (zip_each rvs r1) (zip_reads I rvs (r1.mono sb) h3) (by rw [hsnd]; exact h1) ?_ ?_ ?_ fun out ho hout => ?_
      · rw [hsnd]
        rcases hz.2 with z | z
        · left
          intro d hd
          have := List.all_eq_true.mp z d hd
          cases d with
          | tuple l => cases l with
            | nil => cases this
            | cons x r => exact ⟨x, r, rfl⟩
          | _ => cases this
        · right
          intro d hd
          have := List.all_eq_true.mp z d hd
          cases d with
          | tuple l => cases this
          | none => cases this
          | _ => exact ⟨(fun z => nomatch z), (fun _ z => nomatch z)⟩
      · rw [List.length_zip, ← hlen, Nat.min_self]; exact hzz
      · intro b hbm
        have hm : b.2 ∈ es := by rw [← hsnd]; exact List.mem_map.mpr ⟨b, hbm, rfl⟩
        have := depth_mem hm
        omega
      · obtain ⟨o1, o2⟩ := each_vals hout
        have es' : ((xs.zip es).mergeSort (PySem.W.dataLe false Prod.snd)).map Prod.snd = es.mergeSort (PySem.W.dataLe false id) :=
          (List.map_mergeSort (r := PySem.W.dataLe false Prod.snd) (s := PySem.W.dataLe false id) (f := Prod.snd) (fun a _ b _ => rfl)).trans (by rw [hsnd])
        rw [es'] at o2
        obtain ⟨ep, he'⟩ := PyProof.Rows.sortedAll_at s.heap its out.toArray
        have hl2 : (((xs.zip es).mergeSort (PySem.W.dataLe false Prod.snd)).map Prod.fst).length ≤ sizeLine := by
          rw [List.length_map, List.length_mergeSort, List.length_zip, ← hlen, Nat.min_self]; exact hzz
        have hn : H (s.heap.objs.size + 1) = none := I.hok.fresh (Nat.le_succ _)
        exact ⟨.ref _, upd H (s.heap.objs.size + 1) (.lst _), I.laid (t' := s.toks) (fun _ _ => PyProof.Rows.sortedAll_old) (Nat.le_succ _) ⟨hl2, out, ep, o1, he'⟩, rfl, fin_lst sb o2 q _ hn⟩
    · cases hh
  · cases hh

/-! ## sorted(set(a list of ints)) -/
def insU (x : Int) : List Int → List Int
  | [] => [x]
  | y :: r => if x < y then x :: y :: r else if x = y then y :: r else y :: insU x r
def sortU : List Int → List Int
  | [] => []
  | x :: r => insU x (sortU r)
theorem mem_insU {x k : Int} : ∀ {l : List Int}, k ∈ insU x l ↔ k = x ∨ k ∈ l
  | [] => by simp [insU]
  | y :: r => by
    unfold insU
    split
    · simp
    · split
      · rename_i h; subst h; simp
      · rw [List.mem_cons, mem_insU, List.mem_cons]
        constructor
        · rintro (h | h | h)
          · exact .inr (.inl h)
          · exact .inl h
          · exact .inr (.inr h)
        · rintro (h | h | h)
          · exact .inr (.inl h)
          · exact .inl h
          · exact .inr (.inr h)
theorem mem_sortU {k : Int} : ∀ {l : List Int}, k ∈ sortU l ↔ k ∈ l
  | [] => Iff.rfl
  | x :: r => by
    unfold sortU
    rw [mem_insU, mem_sortU, List.mem_cons]
theorem insU_sorted {x : Int} : ∀ {l : List Int}, l.Pairwise (· < ·) → (insU x l).Pairwise (· < ·)
  | [], _ => by simp [insU]
  | y :: r, h => by
    unfold insU
    obtain ⟨h1, h2⟩ := List.pairwise_cons.mp h
    split
    · rename_i hx
      refine List.pairwise_cons.mpr ⟨fun k hk => ?_, h⟩
      rcases List.mem_cons.mp hk with z | z
      · rw [z]; exact hx
      · exact Int.lt_trans hx (h1 k z)
    · split
      · exact h
      · rename_i hx hy
        refine List.pairwise_cons.mpr ⟨fun k hk => ?_, insU_sorted h2⟩
        rcases mem_insU.mp hk with z | z
        · rw [z]; omega
        · exact h1 k z
theorem sortU_sorted : ∀ (l : List Int), (sortU l).Pairwise (· < ·)
  | [] => .nil
  | _ :: r => insU_sorted (sortU_sorted r)
theorem sorted_uniq : ∀ {l m : List Int}, l.Pairwise (· < ·) → m.Pairwise (· < ·) → (∀ k, k ∈ l ↔ k ∈ m) → l = m
  | [], [], _, _, _ => rfl
  | [], y :: m, _, _, h => absurd ((h y).mpr List.mem_cons_self) (by simp)
  | x :: l, [], _, _, h => absurd ((h x).mp List.mem_cons_self) (by simp)
  | x :: l, y :: m, h1, h2, h => by
    obtain ⟨a1, a2⟩ := List.pairwise_cons.mp h1
    obtain ⟨b1, b2⟩ := List.pairwise_cons.mp h2
    have e : x = y := by
      rcases List.mem_cons.mp ((h x).mp List.mem_cons_self) with z | z
      · exact z
      · rcases List.mem_cons.mp ((h y).mpr List.mem_cons_self) with z' | z'
        · exact z'.symm
        · have := b1 x z
          have := a1 y z'
          omega
    subst e
    refine congrArg (x :: ·) (sorted_uniq a2 b2 fun k => ?_)
    constructor
    · intro hk
      rcases List.mem_cons.mp ((h k).mp (List.mem_cons_of_mem _ hk)) with z | z
      · have := a1 k hk; omega
      · exact z
    · intro hk
      rcases List.mem_cons.mp ((h k).mpr (List.mem_cons_of_mem _ hk)) with z | z
      · have := b1 k hk; omega
      · exact z
def setSortD : D → Option D
  | .list ds => (intsOf ds).bind fun ns => if ns.length < 64 then some (.list ((sortU ns).map .int)) else none
  | .tuple ds => (intsOf ds).bind fun ns => if ns.length < 64 then some (.list ((sortU ns).map .int)) else none
  | _ => none
section
variable {X : Cx} {c : Dc} {e : Expr} {la : List Nat} {f : DenB} {p p2 q0 pos : Pos}
theorem cr_setL (hc : X.calm = true) : CallR X (.type "set") (fun vs H Q => ∃ (l : Addr) (ns : List Int), vs = [.ref l] ∧ (SqL X.K H l (ns.map V.int) ∨ SqT X.K H l (ns.map V.int)) ∧ ns.length < 64 ∧ ∀ (a : Addr) (n : Nat), H a = none → n ≤ ns.length → Q (.ref a) (upd H a (SetO X.w a (fun j => decide (j ∈ ns)) n))) := by
  rintro pins s σ H vs us Q I rv ⟨l, ns, rfl, hq, h64, q⟩
  rw [Vals.ref1 rv]
  have fin : ∀ (h2 : Heap) (tk n : Nat), SetR X.w h2 s.heap.objs.size (fun j => decide (j ∈ ns)) n → n ≤ ns.length → (∀ b o, s.heap.get? b = some o → h2.get? b = some o) → EP X pins σ Q (.ref s.heap.objs.size) { s with heap := h2, toks := tk } := fun h2 tk n R hn k =>
    ⟨.ref _, _, I.laid (t' := tk) k (Nat.le_refl _) (setO_new R), rfl, q _ n (I.hok.fresh (Nat.le_refl _)) hn⟩
  rcases hq with hq | hq
  · obtain ⟨its, r, pl, hz⟩ := I.list hq
    exact set_of_list ns (I.ok.hd hc) pl.isList (by simpa using r.ints) (by unfold scanBound; omega) fin
  · obtain ⟨its, r, pl, hz⟩ := I.tuple hq
    exact call_set_tupI ns (I.ok.hd hc) (show s.heap.IsTuple l its.toArray from pl) (by simpa using r.ints) (by unfold scanBound; omega) fin
theorem setArg {K : Frag} {F H : Hp} {v : V} {x d : D} (sb : Sb F H) (r : BR K F H v x) (e : setSortD x = some d) : ∃ (l : Addr) (ns : List Int), v = .ref l ∧ (SqL K H l (ns.map V.int) ∨ SqT K H l (ns.map V.int)) ∧ ns.length < 64 ∧ d = .list ((sortU ns).map .int) ∧ (x = .list (ns.map .int) ∨ x = .tuple (ns.map .int)) := by
  unfold setSortD at e
  split at e
  · rename_i ds
    cases e1 : intsOf ds with
    | none => rw [e1] at e; cases e
    | some ns =>
      rw [e1] at e
      simp only [Option.bind_some] at e
      split at e
      · rename_i hz
        cases e
        have := intsOf_spec e1
        subst this
        obtain ⟨a, xs, rfl, q, r1⟩ := r.list sb
        rw [r1.ints] at q
        exact ⟨a, ns, rfl, .inl (.inl q), hz, rfl, .inl rfl⟩
      · cases e
  · rename_i ds
    cases e1 : intsOf ds with
    | none => rw [e1] at e; cases e
    | some ns =>
      rw [e1] at e
      simp only [Option.bind_some] at e
      split at e
      · rename_i hz
        cases e
        have := intsOf_spec e1
        subst this
        obtain ⟨a, xs, rfl, q, r1⟩ := r.tuple sb
        rw [r1.ints] at q
        exact ⟨a, ns, rfl, .inr q, hz, rfl, .inr rfl⟩
      · cases e
  · cases e
theorem EX_sortSet (hc : X.calm = true) (hg : Gl X "sorted") (hm : X.mg "sorted" = none) (hg2 : Gl X "set") (hm2 : X.mg "set" = none) (he : EB X c e la f) (h1 : notStar e = true) :
    EX X c (.Call (.Name "sorted" p) [.Call (.Name "set" p2) [e] [] q0] [] pos) la (.own false) (un1 setSortD f) :=
  ⟨pe_weak (pe_callB (cr_sortedSet hc) hg hm (by decide +kernel) (pa_cons (pe_callTy (cr_setL hc) hg2 hm2 (by decide +kernel) (pa_cons he.run pa_nil (starEach_cons h1)) (by decide) (by decide) (starEach_cons h1) (starEach_plain (by rfl))) pa_nil) (by decide) (by decide) rfl (starEach_plain (by rfl)))
    fun σ H Q ⟨F, ρ, n, d, n', E, hl, hf, q⟩ => by
    obtain ⟨s, x, e1, e2, e3⟩ := un1_inv hf
    refine ⟨F, ρ, n, s, n', E, hl, e1, fun v F1 H1 st1 E1 r1 => ?_⟩
    obtain ⟨l, ns, rfl, hq, h64, rfl, _⟩ := setArg E1.sb (r1.br e2) e3
    refine ⟨l, ns, rfl, hq, h64, fun a k ha hk => ⟨a, _, k, rfl, upd_same, by omega, fun ms p hs hm hln hp => ?_⟩⟩
    have e4 : ms = sortU ns := sorted_uniq hs (sortU_sorted ns) fun k => by rw [hm, mem_sortU, decide_eq_true_eq]
    subst e4
    have st2 : Stp N0 F1 H1 F1 (upd H1 a (SetO X.w a (fun j => decide (j ∈ ns)) k)) := .raw E1.sb ha
    have st3 : Stp N0 F1 (upd H1 a (SetO X.w a (fun j => decide (j ∈ ns)) k)) F1 (upd (upd H1 a (SetO X.w a (fun j => decide (j ∈ ns)) k)) p (.lst ((sortU ns).map V.int))) := .raw st2.ok hp
    have E2 := E1.step0 st2
    have E3 := E2.step0 st3
    exact q _ F1 _ ((st1.trans st2.wa).trans st3.wa) E3 (((RN.lst (tk := false) st2.ok hp (RDs.of_ints (sortU ns))).wa E2.ww).step fun a' h' => st2.kn a' (st1.kn a' h'))⟩
end
end WH

namespace WH
open PySem PySem.Spec PyProof.Rows L2

/-! ## tests: is None, is True -/
section
variable {X : Cx} {c : Dc} {a e : Expr} {la lk : List Nat} {fa : DenB} {f : Den} {pos : Pos}
theorem ET_pw (h : PW X e (tT X.K c.wa c.o lk f)) : ET X c e lk f := ⟨h.pt⟩
theorem ET_isN {op : CmpOp} {neg : Bool} (hop : (op = .Is ∧ neg = false) ∨ (op = .IsNot ∧ neg = true)) {j : Nat} {p2 : Pos} (ha : EB X c a la fa) : ET X c (.Compare a [op] [.Constant .none j p2] pos) la (un1 (isC neg .none) fa) := by
  have key : ∀ {σ : L2.St} {H : Hp} {Q : Bool → Hp → Prop}, tT X.K c.wa c.o la (un1 (isC neg .none) fa) σ H Q → tB X.K c.wa c.o la fa σ H fun x H1 => Q (Bool.xor neg (decide (x = .non))) H1 := fun {σ H Q} q => by
    obtain ⟨F, ρ, n, s, n', E, hl, hf, q'⟩ := one_weak (tI_tT (fr := .no) q)
    refine ⟨F, ρ, n, s, n', E, hl, hf, fun v F' H' st E' r => ?_⟩
    obtain ⟨F2, d, r2, sb, hx, hh, q2⟩ := q' v F' H' st E' r
    have e := hx.isN
    rw [e]
    have fin : ∀ b : Bool, r2 = .bool b → Q b H' := fun b hb => by
      subst hb
      obtain ⟨k, hk, q3⟩ := fin_bool sb q2
      cases hk
      exact q3
    cases d <;> (cases hh; exact fin _ rfl)
  rcases hop with ⟨rfl, rfl⟩ | ⟨rfl, rfl⟩
  · exact ⟨pt_weak (pt_cmpR op_isN ha.run pe_non (nomark _)) fun σ H Q q => by
      obtain ⟨F, ρ, n, s, n', E, hl, hf, q'⟩ := key q
      refine ⟨F, ρ, n, s, n', E, hl, hf, fun v F' H' st E' r => ⟨rfl, ?_⟩⟩
      exact ⟨_, rfl, by simpa using q' v F' H' st E' r⟩⟩
  · exact ⟨pt_weak (pt_cmpR op_notN ha.run pe_non (nomark _)) fun σ H Q q => by
      obtain ⟨F, ρ, n, s, n', E, hl, hf, q'⟩ := key q
      refine ⟨F, ρ, n, s, n', E, hl, hf, fun v F' H' st E' r => ⟨rfl, ?_⟩⟩
      exact ⟨_, rfl, by simpa using q' v F' H' st E' r⟩⟩
theorem ET_isB {op : CmpOp} {neg k : Bool} (hop : (op = .Is ∧ neg = false) ∨ (op = .IsNot ∧ neg = true)) {j : Nat} {p2 : Pos} (ha : EB X c a la fa) : ET X c (.Compare a [op] [.Constant (.bool k) j p2] pos) la (un1 (isC neg (.bool k)) fa) := by
  have key : ∀ {σ : L2.St} {H : Hp} {Q : Bool → Hp → Prop}, tT X.K c.wa c.o la (un1 (isC neg (.bool k)) fa) σ H Q → tB X.K c.wa c.o la fa σ H fun x H1 => ∃ b, x = .bl b ∧ Q (Bool.xor neg (decide (b = k))) H1 := fun {σ H Q} q => by
    obtain ⟨F, ρ, n, s, n', E, hl, hf, q'⟩ := one_weak (tI_tT (fr := .no) q)
    refine ⟨F, ρ, n, s, n', E, hl, hf, fun v F' H' st E' r => ?_⟩
    obtain ⟨F2, d, r2, sb, hx, hh, q2⟩ := q' v F' H' st E' r
    cases d with
    | bool b =>
      cases hh
      refine ⟨b, hx.bool, ?_⟩
      obtain ⟨m, hm, q3⟩ := fin_bool sb q2
      rw [Bool.beq_eq_decide_eq] at hm
      cases hm
      exact q3
    | _ => cases hh
  rcases hop with ⟨rfl, rfl⟩ | ⟨rfl, rfl⟩
  · exact ⟨pt_weak (pt_cmpR op_isBl ha.run pe_bl (nomark _)) fun σ H Q q => by
      obtain ⟨F, ρ, n, s, n', E, hl, hf, q'⟩ := key q
      refine ⟨F, ρ, n, s, n', E, hl, hf, fun v F' H' st E' r => ?_⟩
      obtain ⟨b, rfl, q2⟩ := q' v F' H' st E' r
      exact ⟨b, k, rfl, rfl, _, rfl, by simpa using q2⟩⟩
  · exact ⟨pt_weak (pt_cmpR op_notBl ha.run pe_bl (nomark _)) fun σ H Q q => by
      obtain ⟨F, ρ, n, s, n', E, hl, hf, q'⟩ := key q
      refine ⟨F, ρ, n, s, n', E, hl, hf, fun v F' H' st E' r => ?_⟩
      obtain ⟨b, rfl, q2⟩ := q' v F' H' st E' r
      exact ⟨b, k, rfl, rfl, _, rfl, by simpa using q2⟩⟩
end

/-! ## small powers -/
def powD : D → D → Option D
  | .int i, .int j => if decide (0 ≤ i) && decide (i ≤ 1000) && decide (0 ≤ j) && decide (j ≤ 30) then some (.int (i ^ j.toNat)) else none
  | _, _ => none

theorem o_pow {X : Cx} : OpR X (binaryOp .Pow) (rDD X.K powD .no) := by
  refine opr_weak op_pow fun x y H Q ⟨F, d, e, r, sb, hx, hy, hh, q⟩ => ?_
  unfold powD at hh
  split at hh
  · split at hh
    · rename_i hc
      simp only [Bool.and_eq_true, decide_eq_true_eq] at hc
      cases hh
      exact ⟨_, _, hx.int, hy.int, ⟨hc.1.2, by omega, by omega⟩, fin_int sb q⟩
    · cases hh
  · cases hh

def shrD : D → D → Option D
  | .int i, .int j => if decide (0 ≤ j) && decide (j ≤ 60) then some (.int (i / 2 ^ j.toNat)) else none
  | _, _ => none
def andD : D → D → Option D
  | .int i, .int j => some (.int (Builtin.bitAnd i j))
  | _, _ => none
theorem o_shr {X : Cx} : OpR X (binaryOp .RShift) (rDD X.K shrD .no) := by
  refine opr_weak op_shr fun x y H Q ⟨F, d, e, r, sb, hx, hy, hh, q⟩ => ?_
  unfold shrD at hh
  split at hh
  · split at hh
    · rename_i hc
      simp only [Bool.and_eq_true, decide_eq_true_eq] at hc
      cases hh
      exact ⟨_, _, hx.int, hy.int, hc.1, fin_int sb q⟩
    · cases hh
  · cases hh
theorem o_and {X : Cx} : OpR X (binaryOp .BitAnd) (rDD X.K andD .no) := by
  refine opr_weak op_and fun x y H Q ⟨F, d, e, r, sb, hx, hy, hh, q⟩ => ?_
  unfold andD at hh
  split at hh
  · cases hh
    exact ⟨_, _, hx.int, hy.int, fin_int sb q⟩
  · cases hh

/-! ## a def of the text, as the rest sees it -/
structure Fk (P : Program) (w : World) (K : Frag) (mg : Str → Option Value) (base : Heap) (k : Nat) (x : Str) (ps : List Str) (f : List D → Option D) : Prop where
  ex : ∃ (fa : Addr) (fd : FuncData), FnOk P w K mg base CX0 k fa fd ps (spF K f ps.length) ∧ mg x = some (.ref fa) ∧ PySem.W.keepIn K (.ref fa) = true ∧ Binds K fd ps []
section
variable {X : Cx} {c : Dc} {e : Expr} {es : List Expr} {la : List Nat} {g : DenA} {f : List D → Option D} {x : Str} {ps : List Str} {p pos : Pos} {j k : Nat}
theorem EX_callF (F : Fk X.prog X.w X.K X.mg X.base j x ps f) (hr : Room k X.A) (hjk : j ≤ k) (ha : EA X c (e :: es) la g) (hlen : ∀ ρ n r, g ρ n = some r → r.1.length = (e :: es).length) (hg : Gl X x) (hl : (e :: es).length = ps.length) (hs : (e :: es).all notStar = true) (hdb : (x == ("__debug__" : Str)) = false) :
    EX X c (.Call (.Name x p) (e :: es) [] pos) la .no (callV f g) := by
  obtain ⟨fa, fd, h1, h2, h3, h4⟩ := F.ex
  rw [List.all_cons, Bool.and_eq_true] at hs
  exact EX_call (h1.mono hjk) hr hg h2 h3 h4 hl ha hdb (starEach_cons hs.1) (starEach_plain hs.2) hlen
end

/-! ## the draws -/
/-- _law_next(w, m) -/
def spNext (K : Frag) : Sp := fun vs H Q _ => ∃ (a : Addr) (m : Int) (F : Hp) (o : Nat → Int) (n : Nat), vs = [.ref a, .int m] ∧ 0 < m ∧ Sb F H ∧ WOk K o F H n (some a) ∧ ∀ H', Stp (Wx (some a)) F H F H' → WOk K o F H' (n + 1) (some a) → Q (.int (o n % m)) H'
structure NextK (P : Program) (w : World) (K : Frag) (mg : Str → Option Value) (base : Heap) : Prop where
  ex : ∃ (fa : Addr) (fd : FuncData), FnOk P w K mg base CX0 1 fa fd ["w", "many"] (spNext K) ∧ mg "_law_next" = some (.ref fa) ∧ PySem.W.keepIn K (.ref fa) = true ∧ Binds K fd ["w", "many"] []
def drawV (o : Nat → Int) (i : Nat) (f : Den) : Den := fun ρ n => match eget ρ i with
  | some .ww => (f ρ n).bind fun p => match p.1 with
    | .int m => if 0 < m then some (.int (o p.2 % m), p.2 + 1) else none
    | _ => none
  | _ => none
section
variable {X : Cx} {c : Dc} {ow e : Expr} {la : List Nat} {f : Den} {p pos : Pos} {i k : Nat}
theorem EX_draw (N : NextK X.prog X.w X.K X.mg X.base) (hr : Room k X.A) (hk1 : 1 ≤ k) (hw : EV X ow i) (he : EX X c e la .no f) (hg : Gl X "_law_next") (h1 : notStar ow = true) (h2 : notStar e = true) : EX X c (.Call (.Name "_law_next" p) [ow, e] [] pos) la .no (drawV c.o i f) := by
  obtain ⟨fa, fd, g1, g2, g3, g4⟩ := N.ex
  refine ⟨pe_weak (pe_call (g1.mono hk1) hr hg g2 g3 g4 .nil pass0 (pa_cons hw.run (pa_cons he.run pa_nil (starEach_cons h2)) (starEach_cons h1)) (by decide) (starEach_cons h1) (starEach_plain (by rw [List.all_cons, h2] <;> rfl))) fun σ H Q ⟨F, ρ, n, d, n', E, hl, hf, q⟩ => ?_⟩
  unfold drawV at hf
  split at hf
  · rename_i ew
    cases e1 : f ρ n with
    | none => rw [e1] at hf; cases hf
    | some r =>
      rw [e1] at hf
      obtain ⟨d1, n1⟩ := r
      simp only [Option.bind_some] at hf
      split at hf
      · rename_i m
        split at hf
        · rename_i hm
          cases hf
          obtain ⟨v, k1, a, ea, rfl⟩ := E.sl i _ ew
          refine ⟨.ref a, k1, F, ρ, n, _, n1, E, hl, e1, fun v F1 H1 st1 E1 r1 => ?_⟩
          cases (show RD X.K F1 v (.int m) from r1.1)
          have w1 := E1.ww
          rw [ea] at w1 st1 E1 q
          refine ⟨a, m, F1, c.o, n1, rfl, hm, E1.sb, w1, fun H2 st2 w2 => ?_⟩
          exact q (.int _) F1 H2 (st1.trans st2) (E1.step st2 w2) ⟨.int _, fun z => nomatch z⟩
        · cases hf
      · cases hf
  · cases hf
end
/-- the reading of _law_next's body -/
theorem next_end {K : Frag} {o : Nat → Int} {F H : Hp} {n : Nat} {a la : Addr} {ds : List Int} (sb : Sb F H) (f : F a = none) (hH : H a = some (.dK [(.inr "draws", .ref la), (.inr "at", .int n)])) (hl : Rx F la (.lst (ds.map V.int))) (hz : ds.length ≤ 1000) (ho : ∀ m, o m = (ds[m]?).getD 0) :
    Stp (Wx (some a)) F H F (upd H a (.dK [(.inr "draws", .ref la), (.inr "at", .int ((n : Int) + 1))])) ∧ WOk K o F (upd H a (.dK [(.inr "draws", .ref la), (.inr "at", .int ((n : Int) + 1))])) (n + 1) (some a) :=
  ⟨.turn sb f hH trivial rfl, f, la, ds, by rw [upd_same] <;> rfl, hl, hz, ho⟩

/-! ## _law_holds(w) -/
def spHolds (K : Frag) : Sp := fun vs H Q _ => ∃ (a : Addr) (F : Hp) (o : Nat → Int) (n : Nat), vs = [.ref a] ∧ Sb F H ∧ WOk K o F H n (some a) ∧ ∀ F' H' n', Stp (Wx (some a)) F H F' H' → WOk K o F' H' n' (some a) → Q (.bl true) H'
theorem ok_holdsFn {P : Program} {w : World} {K : Frag} {mg : Str → Option Value} {base : Heap} {x qual : Str} {st : Stmt} {fa : Addr} {fd : FuncData} {N : List Str} {pw : Str} {k : Nat} {body : (Nat → Int) → DenS} (F : Fun K x qual st fa fd) (S : FnScope N [pw] (defScope st))
    (hb : ∀ (c : Dc) (cdv : Value) (A : Around) (outer : List Env) (s : Shared) (H : Hp) (E : XK), Room k (A.deeper (envOfC qual (defScope st) s.heap.objs.size fa cdv)) → ESs (cxOf CX0 P w K mg base N qual (defScope st) fa cdv A outer s H E).nox c (defBody st) (body c.o))
    (hl : ∀ (o : Nat → Int) (n : Nat), ∃ n', body o (some .ww :: List.replicate (N.length - 1) none) n = some (.rt (.bool true), n')) : FnOk P w K mg base CX0 (k + 1) fa fd [pw] (spHolds K) := by
  refine F.ok S (fun vs H Q E h => ?_) fun cdv A outer s H vs Q E hr h => ?_
  · obtain ⟨a, _, _, _, rfl, _⟩ := h; rfl
  obtain ⟨a, F, o, n, rfl, sb, hw, q⟩ := h
  obtain ⟨n', e1⟩ := hl o n
  have hpl : 1 ≤ N.length := by have := congrArg List.length S.pre; simp only [List.length_take, List.length_singleton] at this; omega
  refine ⟨_, (hb ⟨some a, o⟩ cdv A outer s H E hr).run, ⟨F, H, fun _ => none, H, fun _ => False⟩, F, _, n, _, n', ⟨⟨sb, fun i s h => ?_, fun i j s t a hij h1 h2 o1 o2 => ?_, hw, ?_⟩, ⟨.refl sb, (fun _ _ h => nomatch h), (fun _ h => False.elim h)⟩, fun i s h ho => ?_⟩, e1, ?_⟩
  · cases i with
    | zero => cases h; exact ⟨.ref a, rfl, a, rfl, rfl⟩
    | succ i =>
      obtain ⟨d, h1, _⟩ := eget_frs (ds := []) (k := N.length - 1) (i := i) (s := s) h
      simp at h1
  · cases i with
    | zero => cases h1; cases o1
    | succ i =>
      obtain ⟨d, h1, _⟩ := eget_frs (ds := []) (k := N.length - 1) (i := i) (s := s) h1
      simp at h1
  · show (some Sl.ww :: List.replicate (N.length - 1) none).length = (L2.start N [V.ref a]).length
    unfold L2.start
    simp
  · cases i with
    | zero => cases h; cases ho
    | succ i =>
      obtain ⟨d, h1, _⟩ := eget_frs (ds := []) (k := N.length - 1) (i := i) (s := s) h
      simp at h1
  · intro v F' H' sv hw' r
    cases (show RD K F' v (.bool true) from r)
    exact q F' H' n' sv.st hw'
end WH

namespace WH
open PySem PySem.Spec PyProof.Rows L2

/-! ## the rules, with what each asks of the text seen by computing -/
section
variable {X : Cx} {c : Dc} {x : Str} {p pos : Pos} {e a b d : Expr} {es : List Expr} {la lb lt lk : List Nat} {f g : Den} {fa fb ft : DenB} {gb : DenAB} {ga : DenA} {fr : Fr}
theorem xv (i : Nat) (hN : X.N[i]? = some x := by rfl) (hv : Vis X.env.scope x := by first | exact Or.inl rfl | exact Or.inr (Or.inl rfl) | exact Or.inr (Or.inr rfl)) (hd : (x == ("__debug__" : Str)) = false := by decide) (hcd : (x == ("__classdict__" : Str)) = false := by decide) : EX X c (.Name x pos) [i] .no (dVar i) := EX_var hN hv hd hcd
theorem bv (i : Nat) (hN : X.N[i]? = some x := by rfl) (hv : Vis X.env.scope x := by first | exact Or.inl rfl | exact Or.inr (Or.inl rfl) | exact Or.inr (Or.inr rfl)) (hd : (x == ("__debug__" : Str)) = false := by decide) (hcd : (x == ("__classdict__" : Str)) = false := by decide) : EB X c (.Name x pos) [] (dVarB i) := EB_var hN hv hd hcd
theorem ev (i : Nat) (hN : X.N[i]? = some x := by rfl) (hv : Vis X.env.scope x := by first | exact Or.inl rfl | exact Or.inr (Or.inl rfl) | exact Or.inr (Or.inr rfl)) (hd : (x == ("__debug__" : Str)) = false := by decide) (hcd : (x == ("__classdict__" : Str)) = false := by decide) : EV X (.Name x pos) i := EV_var hN hv hd hcd
theorem tn (nd : X.N.Nodup) (i : Nat) (hi : X.N[i]? = some x := by rfl) (hx : Loc X.env.scope x := by first | exact Or.inl rfl | exact Or.inr rfl) (hf : X.fn x = true ∨ X.env.scope.names.lookup x = some .local := by first | exact Or.inl rfl | exact Or.inr rfl) : EG X c (.Name x pos) [i] (nameG i) := EG_name nd hi hx hf
theorem tt {k : Nat} {ts : List Nat} {gs : DenGs} (h : EGs X c es ts gs) (hc : X.calm = true := by rfl) (hs : es.all notStar = true := by rfl) : EG X c (.Tuple es k pos) ts (tupG es.length gs) := EG_tup hc h hs
theorem t2 {ts us : List Nat} {g : DenG} {gs : DenGs} (h1 : EG X c e ts g) (h2 : EGs X c es us gs) (hs : notStar e = true := by rfl) : EGs X c (e :: es) (ts ++ us) (consG g gs) := EGs_cons h1 h2 hs
theorem a2 (ha : EX X c e la .no f) (hr : EA X c es lb ga) (hs : notStar e = true := by rfl) : EA X c (e :: es) (la ++ lb) (consA f ga) := EA_cons ha hr (starEach_cons hs)
theorem b2 (ha : EB X c e la fb) (hr : EAB X c es lb gb) (hs : notStar e = true := by rfl) : EAB X c (e :: es) (la ++ lb) (consB fb gb) := EAB_cons ha hr (starEach_cons hs)
theorem ix {k : Nat} (hr : Room k X.A) (ha : EB X c a la fa) (hb : EB X c b lb fb) (hs : PlainIx b := by exact fun _ _ => rfl) : EX X c (.Subscript a b pos) (la ++ lb) .no (bin2S ixD fa fb) := EX_ixS (o_ix (by have := hr.units; omega)) ha hb hs
theorem cm {h : D → D → Option D} {op : CmpOp} (ho : OpR X (compareOp op) (rDD X.K h fr)) (ha : EB X c a la fa) (hb : EB X c b lb fb) (hm : behindInMarks op b = false := by first | exact nomark _ | rfl) : EX X c (.Compare a [op] [b] pos) (la ++ lb) fr (bin2 h fa fb) := EX_cmp ho ha hb hm
theorem tcm {h : D → D → Option D} {op : CmpOp} (ho : OpR X (compareOp op) (rDD X.K h fr)) (ha : EB X c a la fa) (hb : EB X c b lb fb) (hm : behindInMarks op b = false := by first | exact nomark _ | rfl) : ET X c (.Compare a [op] [b] pos) (la ++ lb) (bin2 h fa fb) := ET_cmp ho ha hb hm
theorem ci {h : D → Sl → Option D} {op : CmpOp} (ho : OpR X (compareOp op) (rDS X.K h fr)) (ha : EB X c a la fa) (hb : EB X c b lb fb) (hm : behindInMarks op b = false := by rfl) : EX X c (.Compare a [op] [b] pos) (la ++ lb) fr (bin2R h fa fb) := EX_cmpR ho ha hb hm
theorem tci {h : D → Sl → Option D} {op : CmpOp} (ho : OpR X (compareOp op) (rDS X.K h fr)) (ha : EB X c a la fa) (hb : EB X c b lb fb) (hm : behindInMarks op b = false := by rfl) : ET X c (.Compare a [op] [b] pos) (la ++ lb) (bin2R h fa fb) := ET_cmpR ho ha hb hm
theorem ch {op1 op2 : CmpOp} {h1 h2 : D → D → Option D} (ho : OpR X (compareOp op1) (rDD X.K h1 .no)) (ho2 : OpR X (compareOp op2) (rDD X.K h2 .no)) (ha : EB X c a la fa) (hb : EB X c b lb fb) (hc : EB X c d lt ft) (hm : lastMarks [op1, op2] [b, d] = false := by rfl) : EX X c (.Compare a [op1, op2] [b, d] pos) (la ++ (lb ++ lt)) .no (chV h1 h2 fa fb ft) := EX_chain ho ho2 ha hb hc hm
theorem tch {op1 op2 : CmpOp} {h1 h2 : D → D → Option D} (ho : OpR X (compareOp op1) (rDD X.K h1 .no)) (ho2 : OpR X (compareOp op2) (rDD X.K h2 .no)) (ha : EB X c a la fa) (hb : EB X c b lb fb) (hc : EB X c d lt ft) (hm : lastMarks [op1, op2] [b, d] = false := by rfl) : ET X c (.Compare a [op1, op2] [b, d] pos) (la ++ (lb ++ lt)) (chV h1 h2 fa fb ft) := ET_chain ho ho2 ha hb hc hm
theorem tv (he : EX X c e lk fr f) (hi : ∀ whole, isTrue e X.env whole = (do let v ← whole; standAt e.pos; holding [v] (truthy v)) := by intro _; rfl) : ET X c e lk f := ET_val he hi
theorem cb {id : String} {h : List D → Option D} (hc : CallR X (.builtin id) (rDn X.K h fr)) (hm : X.mg x = none) (hv : bootBuiltins x = some (.builtin id)) (ha : EAB X c (e :: es) la gb) (hg : Gl X x := by rfl) (hn : x ≠ "__name__" := by decide) (hdb : (x == ("__debug__" : Str)) = false := by decide) (h1 : (e :: es).all notStar = true := by rfl) :
    EX X c (.Call (.Name x p) (e :: es) [] pos) la fr (call1 h gb) := by
  rw [List.all_cons, Bool.and_eq_true] at h1
  exact EX_callB hc hg hm hv ha hn hdb (starEach_cons h1.1) (starEach_plain h1.2)
theorem ct {T : String} {h : List D → Option D} (hc : CallR X (.type T) (rDn X.K h fr)) (hm : X.mg x = none) (hv : bootBuiltins x = some (.type T)) (ha : EAB X c (e :: es) la gb) (hg : Gl X x := by rfl) (hn : x ≠ "__name__" := by decide) (hdb : (x == ("__debug__" : Str)) = false := by decide) (h1 : (e :: es).all notStar = true := by rfl) :
    EX X c (.Call (.Name x p) (e :: es) [] pos) la fr (call1 h gb) := by
  rw [List.all_cons, Bool.and_eq_true] at h1
  exact EX_callTy hc hg hm hv ha hn hdb (starEach_cons h1.1) (starEach_plain h1.2)
theorem cf {j k : Nat} {ps : List Str} {f : List D → Option D} (F : Fk X.prog X.w X.K X.mg X.base j x ps f) (hr : Room k X.A) (ha : EA X c (e :: es) la ga) (hlen : ∀ ρ n r, ga ρ n = some r → r.1.length = (e :: es).length) (hjk : j ≤ k := by decide) (hg : Gl X x := by rfl) (hl : (e :: es).length = ps.length := by rfl) (hs : (e :: es).all notStar = true := by rfl) (hdb : (x == ("__debug__" : Str)) = false := by decide) :
    EX X c (.Call (.Name x p) (e :: es) [] pos) la .no (callV f ga) := EX_callF F hr hjk ha hlen hg hl hs hdb
theorem dr {k i : Nat} {ow : Expr} (N : NextK X.prog X.w X.K X.mg X.base) (hr : Room k X.A) (hw : EV X ow i) (he : EX X c e la .no f) (hk1 : 1 ≤ k := by decide) (hg : Gl X "_law_next" := by rfl) (h1 : notStar ow = true := by rfl) (h2 : notStar e = true := by rfl) : EX X c (.Call (.Name "_law_next" p) [ow, e] [] pos) la .no (drawV c.o i f) := EX_draw N hr hk1 hw he hg h1 h2
theorem isi {T : String} {p2 : Pos} (hm : X.mg "isinstance" = none) (hm2 : X.mg x = none) (hv : bootBuiltins x = some (.type T)) (he : EB X c e la fa) (hT : T ∈ ["int", "bool", "str", "tuple", "list", "dict"] := by decide) (hg : Gl X "isinstance" := by rfl) (hg2 : Gl X x := by rfl) (hn : x ≠ "__name__" := by decide) (hd : (x == ("__debug__" : Str)) = false := by decide) (h1 : notStar e = true := by rfl) :
    EX X c (.Call (.Name "isinstance" p) [e, .Name x p2] [] pos) la .no (isiV T fa) := EX_isi hT hg hm hg2 hm2 hv he hn hd h1
theorem sset {p2 q0 : Pos} (hm : X.mg "sorted" = none) (hm2 : X.mg "set" = none) (he : EB X c e la fa) (hc : X.calm = true := by rfl) (hg : Gl X "sorted" := by rfl) (hg2 : Gl X "set" := by rfl) (h1 : notStar e = true := by rfl) : EX X c (.Call (.Name "sorted" p) [.Call (.Name "set" p2) [e] [] q0] [] pos) la (.own false) (un1 setSortD fa) := EX_sortSet hc hg hm hg2 hm2 he h1
/-! sources -/
theorem s_any {tg : Expr} (he : EB X c e la fa) (hs : ∀ env x, foldedSetIterable e env x = pure x := by intro _ _; rfl) : SRC X c tg e la false (anyS fa) (wiAny X.K (WH.tB X.K c.wa c.o la fa)) := SRC_any he hs
theorem s_fz {tg : Expr} (he : EX X c e la .no f) (hs : ∀ env x, foldedSetIterable e env x = pure x := by intro _ _; rfl) : SRC X c tg e la true (anyS (dB f)) (wiAny X.K (WH.tB X.K c.wa c.o la (dB f))) := SRC_fz he hs
theorem s_r1 {tg : Expr} (hm : X.mg "range" = none) (ha : EB X c e la fa) (hg : Gl X "range" := by rfl) (h1 : notStar e = true := by rfl) : SRC X c tg (.Call (.Name "range" p) [e] [] pos) (la ++ []) true (rng1S fa) (iRng1 (tAB X.K c.wa c.o (la ++ []) (consB fa nilB))) := SRC_rng1 hg hm (EAB_cons ha EAB_nil (starEach_cons h1)) (starEach_cons h1)
theorem s_r2 {tg : Expr} (hm : X.mg "range" = none) (ha : EB X c a la fa) (hb : EB X c b lb fb) (hg : Gl X "range" := by rfl) (h1 : notStar a = true := by rfl) (h2 : notStar b = true := by rfl) :
    SRC X c tg (.Call (.Name "range" p) [a, b] [] pos) (la ++ (lb ++ [])) true (rng2S fa fb) (iRng2 (tAB X.K c.wa c.o (la ++ (lb ++ [])) (consB fa (consB fb nilB)))) := SRC_rng2 hg hm (EAB_cons ha (EAB_cons hb EAB_nil (starEach_cons h2)) (starEach_cons h1)) (by rw [starEach_cons h1, starEach_cons h2] <;> rfl) (starEach_cons h2)
theorem n_fz {tg : Expr} (he : EX X c e la .no f) (hs : ∀ env x, foldedSetIterable e env x = pure x := by intro _ _; rfl) : SRCN X c tg e la (anyN f) (wiN X.K (tI X.K c.wa c.o la .no f)) := SRCN_fz he hs
theorem n_r1 {tg : Expr} (hm : X.mg "range" = none) (ha : EB X c e la fa) (hg : Gl X "range" := by rfl) (h1 : notStar e = true := by rfl) : SRCN X c tg (.Call (.Name "range" p) [e] [] pos) (la ++ []) (rng1S fa) (iRng1 (tAB X.K c.wa c.o (la ++ []) (consB fa nilB))) := SRCN_rng1 hg hm (EAB_cons ha EAB_nil (starEach_cons h1)) (starEach_cons h1)
theorem n_r2 {tg : Expr} (hm : X.mg "range" = none) (ha : EB X c a la fa) (hb : EB X c b lb fb) (hg : Gl X "range" := by rfl) (h1 : notStar a = true := by rfl) (h2 : notStar b = true := by rfl) :
    SRCN X c tg (.Call (.Name "range" p) [a, b] [] pos) (la ++ (lb ++ [])) (rng2S fa fb) (iRng2 (tAB X.K c.wa c.o (la ++ (lb ++ [])) (consB fa (consB fb nilB)))) := SRCN_rng2 hg hm (EAB_cons ha (EAB_cons hb EAB_nil (starEach_cons h2)) (starEach_cons h1)) (by rw [starEach_cons h1, starEach_cons h2] <;> rfl) (starEach_cons h2)
/-! comprehensions -/
section
variable {elt tg iter tg1 iter1 : Expr} {ifs ifs1 : List Expr} {scope : Scope} {spos py : Pos} {src src1 : DenA} {tgd tgd1 : DenG} {t t1 ed : Den} {ts ts1 lt' l1 lt1 le : List Nat} {fz : Bool} {wi wi1 : TI} {y : Str}
theorem lc (own : List (Str × Nat)) (nd : X.N.Nodup) (hi : SRC X c tg iter la fz src wi) (hg : BlkEG X c scope tg ts tgd) (ht : BlkET X c scope ifs lt' t) (he : BlkEX X c scope elt le ed) (hgo : GOk ts tgd) (hs : ∀ i ∈ ts, i ∈ own.map (·.2) := by decide) (hok : blkC X.N X.env.scope scope own = true := by rfl) (hc : X.calm = true := by rfl) :
    EX X c (.ListComp elt [⟨tg, iter, ifs, 0⟩] scope pos) (la ++ (inner (own.map (·.2)) lt' ++ inner (own.map (·.2)) le)) (.own false) (lcV src tgd t ed (own.map (·.2))) := EX_lc hc nd hi (blkOk_by hok) hg ht he hgo hs
theorem nlc (own : List (Str × Nat)) (nd : X.N.Nodup) (i : Nat) (hi : SRC X c tg iter la fz src wi) (hg : BlkEG X c scope tg ts tgd) (ht : BlkET X c scope ifs lt' t) (he : BlkEX X c scope elt le ed) (hgo : GOk ts tgd) (hs : ∀ i ∈ ts, i ∈ own.map (·.2) := by decide) (hok : blkC X.N X.env.scope scope own = true := by rfl) (hc : X.calm = true := by rfl)
    (hy : X.N[i]? = some y := by rfl) (hyl : X.env.scope.names.lookup y = some .local := by rfl) (hk : X.env.scope.kind = .function := by rfl) (hl : (py.line == pos.line) = true := by rfl) (hns : (scope.names.any fun (n, k) => n == y && (k == .local || k == .cell)) = false := by rfl) :
    EN X c (.Assign [.Name y py] (.ListComp elt [⟨tg, iter, ifs, 0⟩] scope pos) spos) i (la ++ (inner (own.map (·.2)) lt' ++ inner (own.map (·.2)) le)) (.own false) (lcV src tgd t ed (own.map (·.2))) := EN_lc hc nd hy hyl (sw_true hk hyl hl hns) hi (blkOk_by hok) hg ht he hgo hs
theorem lc2 (own : List (Str × Nat)) (nd : X.N.Nodup) (hi : SRC X c tg iter la fz src wi) (hg : BlkEG X c scope tg ts tgd) (ht : BlkET X c scope ifs lt' t) (hi1 : BlkSRCN X c scope tg1 iter1 l1 src1 wi1) (hg1 : BlkEG X c scope tg1 ts1 tgd1) (ht1 : BlkET X c scope ifs1 lt1 t1) (he : BlkEX X c scope elt le ed)
    (hgo : GOk ts tgd) (hgo1 : GOk ts1 tgd1) (hs : ∀ i ∈ ts, i ∈ own.map (·.2) := by decide) (hv : ∀ i ∈ ts1, i ∈ own.map (·.2) := by decide) (hok : blkC X.N X.env.scope scope own = true := by rfl) (hc : X.calm = true := by rfl) (hs1 : ∀ env x, foldedSetIterable iter1 env x = pure x := by intro _ _; rfl) :
    EX X c (.ListComp elt [⟨tg, iter, ifs, 0⟩, ⟨tg1, iter1, ifs1, 0⟩] scope pos) (la ++ (inner (own.map (·.2)) lt' ++ (inner (own.map (·.2)) l1 ++ (inner (own.map (·.2)) lt1 ++ inner (own.map (·.2)) le)))) (.own false) (lc2V src tgd t src1 tgd1 t1 ed (own.map (·.2)) ts1) := EX_lc2 hc nd hi (blkOk_by hok) hg ht hi1 hg1 ht1 he hs1 hgo hgo1 hs hv
theorem nlc2 (own : List (Str × Nat)) (nd : X.N.Nodup) (i : Nat) (hi : SRC X c tg iter la fz src wi) (hg : BlkEG X c scope tg ts tgd) (ht : BlkET X c scope ifs lt' t) (hi1 : BlkSRCN X c scope tg1 iter1 l1 src1 wi1) (hg1 : BlkEG X c scope tg1 ts1 tgd1) (ht1 : BlkET X c scope ifs1 lt1 t1) (he : BlkEX X c scope elt le ed)
    (hgo : GOk ts tgd) (hgo1 : GOk ts1 tgd1) (hs : ∀ i ∈ ts, i ∈ own.map (·.2) := by decide) (hv : ∀ i ∈ ts1, i ∈ own.map (·.2) := by decide) (hok : blkC X.N X.env.scope scope own = true := by rfl) (hc : X.calm = true := by rfl) (hs1 : ∀ env x, foldedSetIterable iter1 env x = pure x := by intro _ _; rfl)
    (hy : X.N[i]? = some y := by rfl) (hyl : X.env.scope.names.lookup y = some .local := by rfl) (hk : X.env.scope.kind = .function := by rfl) (hl : (py.line == pos.line) = true := by rfl) (hns : (scope.names.any fun (n, k) => n == y && (k == .local || k == .cell)) = false := by rfl) :
    EN X c (.Assign [.Name y py] (.ListComp elt [⟨tg, iter, ifs, 0⟩, ⟨tg1, iter1, ifs1, 0⟩] scope pos) spos) i (la ++ (inner (own.map (·.2)) lt' ++ (inner (own.map (·.2)) l1 ++ (inner (own.map (·.2)) lt1 ++ inner (own.map (·.2)) le)))) (.own false) (lc2V src tgd t src1 tgd1 t1 ed (own.map (·.2)) ts1) := EN_lc2 hc nd hy hyl (sw_true hk hyl hl hns) hi (blkOk_by hok) hg ht hi1 hg1 ht1 he hs1 hgo hgo1 hs hv
end
/-! statements -/
theorem st {pos' : Pos} (nd : X.N.Nodup) (i : Nat) (he : EX X c e lk fr f) (hi : X.N[i]? = some x := by rfl) (hx : Loc X.env.scope x := by first | exact Or.inl rfl | exact Or.inr rfl) (hs : swapsWith e (some (.Name x pos')) pos.line X.env = pure false := by rfl) (hf : X.fn x = true ∨ X.env.scope.names.lookup x = some .local := by first | exact Or.inl rfl | exact Or.inr rfl) : ES X c (.Assign [.Name x pos'] e pos) (setS i lk fr f) := ES_set (EN_set nd hi hx he hs hf)
theorem p2 {fa fb : Fr} {y : Str} {px py pt : Pos} {kt k2 : Nat} {pt2 : Pos} (nd : X.N.Nodup) (i j : Nat) (ha : EX X c a la fa f) (hb : EX X c b lb fb g) (hi : X.N[i]? = some x := by rfl) (hj : X.N[j]? = some y := by rfl) (hij : i ≠ j := by decide) (hx : X.env.scope.names.lookup x = some .local := by rfl) (hy : X.env.scope.names.lookup y = some .local := by rfl)
    (hw : swappedStores [.Tuple [.Name x px, .Name y py] kt pt] (.Tuple [a, b] k2 pt2) X.env = pure (some [x, y]) := by rfl) (hs : swapsWithSole [.Tuple [.Name x px, .Name y py] kt pt] (.Tuple [a, b] k2 pt2) pos.line X.env = pure false := by rfl) (h1 : notStar a = true := by rfl) (h2 : notStar b = true := by rfl) (hc : X.calm = true := by rfl) :
    ES X c (.Assign [.Tuple [.Name x px, .Name y py] kt pt] (.Tuple [a, b] k2 pt2) pos) (par2S i j la lb fa fb f g) := ES_par2 hc nd hi hj hij hx hy ha hb hw hs h1 h2
theorem p3 {fa fb fd : Fr} {lc : List Nat} {gc : Den} {y z : Str} {px py pz pt : Pos} {kt k2 : Nat} {pt2 : Pos} (nd : X.N.Nodup) (i j l : Nat) (ha : EX X c a la fa f) (hb : EX X c b lb fb g) (hd : EX X c d lc fd gc) (hi : X.N[i]? = some x := by rfl) (hj : X.N[j]? = some y := by rfl) (hl : X.N[l]? = some z := by rfl) (hij : i ≠ j := by decide) (hil : i ≠ l := by decide) (hjl : j ≠ l := by decide)
    (hx : X.env.scope.names.lookup x = some .local := by rfl) (hy : X.env.scope.names.lookup y = some .local := by rfl) (hz : X.env.scope.names.lookup z = some .local := by rfl) (hw : swappedStores [.Tuple [.Name x px, .Name y py, .Name z pz] kt pt] (.Tuple [a, b, d] k2 pt2) X.env = pure (some [x, y, z]) := by rfl)
    (hs : swapsWithSole [.Tuple [.Name x px, .Name y py, .Name z pz] kt pt] (.Tuple [a, b, d] k2 pt2) pos.line X.env = pure false := by rfl) (h1 : notStar a = true := by rfl) (h2 : notStar b = true := by rfl) (h3 : notStar d = true := by rfl) (hc : X.calm = true := by rfl) :
    ES X c (.Assign [.Tuple [.Name x px, .Name y py, .Name z pz] kt pt] (.Tuple [a, b, d] k2 pt2) pos) (par3S i j l la lb lc fa fb fd f g gc) := ES_par3 hc nd hi hj hl hij hil hjl hx hy hz ha hb hd hw hs h1 h2 h3
theorem ag {tg : Expr} {ts : List Nat} {tgd : DenG} (he : EX X c e lk .no f) (hg : EG X c tg ts tgd) (hgo : GOk ts tgd) (hgf : GFr ts tgd) (hs : swapsWithSole [tg] e pos.line X.env = pure false := by rfl) (hw : swappedStores [tg] e X.env = pure none := by rfl) (h1 : (assignEach [tg] X.env).map (·.2) = [assign tg X.env] := by rfl) : ES X c (.Assign [tg] e pos) (asgS lk f tgd) := ES_asg he hg hgo hgf hs hw h1
theorem dp {k i : Nat} {ox ke value : Expr} {lv : List Nat} {fk fv : Den} {pos' : Pos} (hr : Room k X.A) (ho : EV X ox i) (hk : EX X c ke lk .no fk) (hv : EX X c value lv .no fv) (hs : swapsWith value (some (.Subscript ox ke pos')) pos.line X.env = pure false := by rfl) : ES X c (.Assign [.Subscript ox ke pos'] value pos) (dputS i lv lk fv fk) := ES_dput (by have := hr.units; omega) ho hk hv hs
theorem au {op : Operator} {fo : Int → Int → Int} {pos' : Pos} (nd : X.N.Nodup) (i : Nat) (ho : PIp X op (ipI fo)) (he : EX X c e lk .no f) (hi : X.N[i]? = some x := by rfl) (hx : Loc X.env.scope x := by first | exact Or.inl rfl | exact Or.inr rfl) (hf : X.fn x = true ∨ X.env.scope.names.lookup x = some .local := by first | exact Or.inl rfl | exact Or.inr rfl) : ES X c (.AugAssign (.Name x pos') op e pos) (augD fo i lk f) := ES_aug nd hi hx he ho hf
theorem ap {i : Nat} {ox : Expr} {apos cpos : Pos} (ho : EV X ox i) (he : EX X c e lk .no f) (hs : swapsWith (.Call (.Attribute ox "append" apos) [e] [] cpos) none pos.line X.env = pure false := by rfl) (hbase : attributeBase ox "append" X.env (eval ox X.env) = eval ox X.env := by rfl)
    (hfew : ((backTo cpos (starEach [e] X.env)).all (fun x => !x.1) && (backToKw cpos (keywordEach [] X.env)).all (fun x => x.1.isSome) && decide ([e].length + ([] : List Keyword).length + (if ([] : List Keyword).isEmpty then 0 else 1) < 30)) = true := by rfl) (hline : (apos.endLine == cpos.line) = true := by rfl) (h1 : notStar e = true := by rfl) :
    ES X c (.Expr (.Call (.Attribute ox "append" apos) [e] [] cpos) pos) (appS i lk f) := ES_append ho he hs hbase hfew hline h1
theorem xt {i : Nat} {ox : Expr} {apos cpos : Pos} (ho : EV X ox i) (he : EX X c e lk .no f) (hs : swapsWith (.Call (.Attribute ox "extend" apos) [e] [] cpos) none pos.line X.env = pure false := by rfl) (hbase : attributeBase ox "extend" X.env (eval ox X.env) = eval ox X.env := by rfl)
    (hfew : ((backTo cpos (starEach [e] X.env)).all (fun x => !x.1) && (backToKw cpos (keywordEach [] X.env)).all (fun x => x.1.isSome) && decide ([e].length + ([] : List Keyword).length + (if ([] : List Keyword).isEmpty then 0 else 1) < 30)) = true := by rfl) (hline : (apos.endLine == cpos.line) = true := by rfl) (h1 : notStar e = true := by rfl) :
    ES X c (.Expr (.Call (.Attribute ox "extend" apos) [e] [] cpos) pos) (extS i lk f) := ES_extend ho he hs hbase hfew hline h1
theorem fo {tg iter : Expr} {ts : List Nat} {tgd : DenG} {src : DenA} {wi : TI} {body : List Stmt} {bd : DenS} (hi : SRC X c tg iter lk true src wi) (hg : EG X c tg ts tgd) (hgo : GOk ts tgd) (hgf : GFr ts tgd) (hb : ESs X c body bd) (hp : PassesOwn (model X.prog X.w) X.A X.env X.xe := by exact PassesOwn.never) (hc : X.calm = true := by rfl) : ES X c (.For tg iter body [] pos) (forS lk src tgd bd) := ES_for hp hc hi hg hgo hgf hb
theorem wh (fuel : Nat) {body : List Stmt} {bd : DenS} (ht : ET X c e lk f) (hb : ESs X c body bd) (hp : PassesOwn (model X.prog X.w) X.A X.env X.xe := by exact PassesOwn.never) : ES X c (.While e body [] pos) (whS fuel lk f bd) := ES_while hp ht hb
end
end WH

namespace WH
open PySem PySem.Spec PyProof.Rows L2

/-! ## the script: its length, its numbers -/
def lenKV (i : Nat) : Den := fun ρ n => match eget ρ i with
  | some (.ks ns) => some (.int ns.length, n)
  | _ => none
def ixKV (i : Nat) (f : DenB) : Den := fun ρ n => match eget ρ i with
  | some (.ks ns) => (f ρ n).bind fun p => match p.1 with
    | .fr (.int j) => (atI ns j).map fun z => (.int z, p.2)
    | _ => none
  | _ => none
theorem KSq.sq {K : Frag} {H : Hp} {a : Addr} {xs : List V} (h : KSq K H a xs) : SqL K H a xs := by
  rcases h with ⟨o, h⟩ | h
  · exact .inl (.inr ⟨o, h⟩)
  · exact .inr h
theorem atI_map {α β : Type} (g : α → β) {l : List α} {i : Int} {x : α} (h : atI l i = some x) : atI (l.map g) i = some (g x) := by
  unfold L2.atI at h ⊢
  rw [List.length_map]
  cases e : ixN l.length i with
  | none => rw [e] at h; cases h
  | some j =>
    rw [e] at h
    show (l.map g)[j]? = _
    rw [List.getElem?_map, show l[j]? = some x from h] <;> rfl
section
variable {X : Cx} {c : Dc} {ow e : Expr} {la : List Nat} {f : DenB} {p pos : Pos} {i : Nat}
theorem lenK (i : Nat) (hm : X.mg "len" = none) (ho : EV X ow i) (hg : Gl X "len" := by rfl) (h1 : notStar ow = true := by rfl) : EX X c (.Call (.Name "len" p) [ow] [] pos) [] .no (lenKV i) :=
  ⟨pe_weak (pe_callB call_len_seq hg hm boot_len (pa_cons ho.run pa_nil (starEach_cons h1)) (by decide) (by decide) (starEach_cons h1) (starEach_plain (by rfl))) fun σ H Q ⟨F, ρ, n, d, n', E, hl, hf, q⟩ => by
    unfold lenKV at hf
    split at hf
    · rename_i ns es
      cases hf
      obtain ⟨v, k1, a, rfl, w, q1⟩ := E.sl i _ es
      refine ⟨.ref a, k1, a, ns.map V.int, rfl, .inl q1.sq, ?_⟩
      rw [List.length_map]
      exact q _ F H (.refl E.sb) E ⟨.int _, fun z => nomatch z⟩
    · cases hf⟩
theorem ixK (i : Nat) (ho : EV X ow i) (hb : EB X c e la f) (hs : PlainIx e := by exact fun _ _ => rfl) : EX X c (.Subscript ow e pos) la .no (ixKV i f) :=
  ⟨pe_weak (pe_ix ix_list ho.run hb.run hs) fun σ H Q ⟨F, ρ, n, d, n', E, hl, hf, q⟩ => by
    unfold ixKV at hf
    split at hf
    · rename_i ns es
      cases e1 : f ρ n with
      | none => rw [e1] at hf; cases hf
      | some r =>
        rw [e1] at hf
        obtain ⟨s, m⟩ := r
        simp only [Option.bind_some] at hf
        split at hf
        · rename_i j
          cases e2 : atI ns j with
          | none => rw [e2] at hf; cases hf
          | some z =>
            rw [e2] at hf
            cases hf
            obtain ⟨v, k1, a, rfl, w, _⟩ := E.sl i _ es
            refine ⟨.ref a, k1, F, ρ, n, _, _, E, hl, e1, fun v F1 H1 st1 E1 r1 => ?_⟩
            obtain ⟨v2, k2, a2, rfl, w2, q2⟩ := E1.sl i _ es
            rw [k1] at k2
            cases k2
            cases (show RD X.K F1 v (.int j) from r1)
            exact ⟨a, ns.map V.int, j, .int z, rfl, rfl, q2.sq, atI_map V.int e2, q _ F1 H1 st1 E1 ⟨.int _, fun z => nomatch z⟩⟩
        · cases hf
    · cases hf⟩
end
/-- _law_draws(script, 200) -/
def spDraws (K : Frag) : Sp := fun vs H Q _ => ∃ (a : Addr) (ns : List Int) (F : Hp), vs = [.ref a, .int 200] ∧ Sb F H ∧ KSq K H a (ns.map V.int) ∧ ns.length ≤ 63 ∧ ∀ v F' H' (ds : List Int), Stp N0 F H F' H' → ds.length ≤ 1000 → RD K F' v (.list (ds.map .int)) → Q v H'
theorem ok_drawsFn {P : Program} {w : World} {K : Frag} {mg : Str → Option Value} {base : Heap} {x qual : Str} {st : Stmt} {fa : Addr} {fd : FuncData} {N : List Str} {k : Nat} {body : DenS} (F : Fun K x qual st fa fd) (S : FnScope N ["script", "many"] (defScope st))
    (hb : ∀ (cdv : Value) (A : Around) (outer : List Env) (s : Shared) (H : Hp) (E : XK), Room k (A.deeper (envOfC qual (defScope st) s.heap.objs.size fa cdv)) → ESs (cxOf CX0 P w K mg base N qual (defScope st) fa cdv A outer s H E).nox ⟨none, fun _ => 0⟩ (defBody st) body)
    (hl : ∀ ns : List Int, ns.length ≤ 63 → ∃ ds : List Int, ds.length ≤ 1000 ∧ ∃ n', body (some (.ks ns) :: some (.fr (.int 200)) :: List.replicate (N.length - 2) none) 0 = some (.rt (.list (ds.map .int)), n')) : FnOk P w K mg base CX0 (k + 1) fa fd ["script", "many"] (spDraws K) := by
  refine F.ok S (fun vs H Q E h => ?_) fun cdv A outer s H vs Q E hr h => ?_
  · obtain ⟨a, _, _, rfl, _⟩ := h; rfl
  obtain ⟨a, ns, F, rfl, sb, hq, h63, q⟩ := h
  obtain ⟨ds, hds, n', e1⟩ := hl ns h63
  have hpl : 2 ≤ N.length := by
    have := congrArg List.length S.pre
    rw [List.length_take] at this
    have h2 : (["script", "many"] : List Str).length = 2 := rfl
    rw [h2] at this
    omega
  have slots : ∀ i s, eget (some (.ks ns) :: some (.fr (.int 200)) :: List.replicate (N.length - 2) none) i = some s → (i = 0 ∧ s = .ks ns) ∨ (i = 1 ∧ s = .fr (.int 200)) := fun i s h => by
    cases i with
    | zero => cases h; exact .inl ⟨rfl, rfl⟩
    | succ i =>
      cases i with
      | zero => cases h; exact .inr ⟨rfl, rfl⟩
      | succ i =>
        obtain ⟨d, h1, _⟩ := eget_frs (ds := []) (k := N.length - 2) (i := i) (s := s) h
        simp at h1
  refine ⟨_, (hb cdv A outer s H E hr).run, ⟨F, H, fun _ => none, H, fun _ => False⟩, F, _, 0, _, n', ⟨⟨sb, fun i s h => ?_, fun i j s t a hij h1 h2 o1 o2 => ?_, True.intro, ?_⟩, ⟨.refl sb, (fun _ _ h => nomatch h), (fun _ h => False.elim h)⟩, fun i s h ho => ?_⟩, e1, ?_⟩
  · rcases slots i s h with ⟨rfl, rfl⟩ | ⟨rfl, rfl⟩
    · exact ⟨.ref a, rfl, a, rfl, (fun z => nomatch z), hq⟩
    · exact ⟨.int 200, rfl, .int 200⟩
  · rcases slots i s h1 with ⟨rfl, rfl⟩ | ⟨rfl, rfl⟩ <;> cases o1
  · show (some (Sl.ks ns) :: some (.fr (.int 200)) :: List.replicate (N.length - 2) none).length = (L2.start N [V.ref a, V.int 200]).length
    unfold L2.start
    simp
  · rcases slots i s h with ⟨rfl, rfl⟩ | ⟨rfl, rfl⟩ <;> cases ho
  · exact fun v F' H' sv hw r => q v F' H' ds (sv.st.mono fun a z => nomatch z) hds r

/-! ## _law_next's body, read -/
theorem at_draws (v w : V) : valV [((Sum.inr "draws" : Key), v), (Sum.inr "at", w)] (Sum.inr "draws") = some v := rfl
theorem at_at (v w : V) : valV [((Sum.inr "draws" : Key), v), (Sum.inr "at", w)] (Sum.inr "at") = some w := rfl
theorem put_at (v w z : V) : putK [((Sum.inr "draws" : Key), v), (Sum.inr "at", w)] (Sum.inr "at") z = [((Sum.inr "draws" : Key), v), (Sum.inr "at", z)] := rfl
end WH

namespace WH
open PySem PySem.Spec PyProof.Rows L2

/-! ## loops, read -/
theorem forGo_fold {g : DenG} {body : DenS} {all : List D} (I : List D → En → Nat → Prop) (h : ∀ pre d post ρ n, all = pre ++ d :: post → I pre ρ n → ∃ ρ1 ρ2 n2, g ρ d = some ρ1 ∧ body ρ1 n = some (.nx ρ2, n2) ∧ I (pre ++ [d]) ρ2 n2) :
    ∀ (rest pre : List D) (ρ : En) (n : Nat), all = pre ++ rest → I pre ρ n → ∃ ρ' n', forGo g body rest ρ n = some (.nx ρ', n') ∧ I all ρ' n'
  | [], pre, ρ, n, e, h0 => ⟨ρ, n, rfl, by rw [e, List.append_nil]; exact h0⟩
  | d :: rest, pre, ρ, n, e, h0 => by
    obtain ⟨ρ1, ρ2, n2, e1, e2, h2⟩ := h pre d rest ρ n e h0
    obtain ⟨ρ', n', e3, h3⟩ := forGo_fold I h rest (pre ++ [d]) ρ2 n2 (by rw [e, List.append_assoc] <;> rfl) h2
    refine ⟨ρ', n', ?_, h3⟩
    unfold forGo
    rw [e1]
    simp only [Option.bind_some]
    rw [e2]
    exact e3
theorem forGo_map {α : Type} {g : DenG} {body : DenS} {enc : α → D} {all : List α} (I : List α → En → Nat → Prop) (h : ∀ pre a post ρ n, all = pre ++ a :: post → I pre ρ n → ∃ ρ1 ρ2 n2, g ρ (enc a) = some ρ1 ∧ body ρ1 n = some (.nx ρ2, n2) ∧ I (pre ++ [a]) ρ2 n2) :
    ∀ (rest pre : List α) (ρ : En) (n : Nat), all = pre ++ rest → I pre ρ n → ∃ ρ' n', forGo g body (rest.map enc) ρ n = some (.nx ρ', n') ∧ I all ρ' n'
  | [], pre, ρ, n, e, h0 => ⟨ρ, n, rfl, by rw [e, List.append_nil]; exact h0⟩
  | d :: rest, pre, ρ, n, e, h0 => by
    obtain ⟨ρ1, ρ2, n2, e1, e2, h2⟩ := h pre d rest ρ n e h0
    obtain ⟨ρ', n', e3, h3⟩ := forGo_map I h rest (pre ++ [d]) ρ2 n2 (by rw [e, List.append_assoc] <;> rfl) h2
    refine ⟨ρ', n', ?_, h3⟩
    rw [List.map_cons]
    unfold forGo
    rw [e1]
    simp only [Option.bind_some]
    rw [e2]
    exact e3
theorem mul_r {i j : Int} (h : smallI j = true) : mulD (.int i) (.int j) = some (.int (i * j)) := by
  show (if (smallI i || smallI j) = true then some (PyData.int (i * j)) else none) = _
  rw [h, Bool.or_true] <;> rfl
theorem mul_l {i j : Int} (h : smallI i = true) : mulD (.int i) (.int j) = some (.int (i * j)) := by
  show (if (smallI i || smallI j) = true then some (PyData.int (i * j)) else none) = _
  rw [h, Bool.true_or] <;> rfl
theorem cutD_map {α β : Type} (f : α → β) (l : List α) (lo hi : Option Int) : cutD (l.map f) lo hi = (cutD l lo hi).map f := by
  unfold cutD
  rw [List.length_map, List.map_take, List.map_drop]
theorem cutD_len {α : Type} (l : List α) (lo hi : Option Int) : (cutD l lo hi).length ≤ l.length := by
  unfold cutD
  rw [List.length_take, List.length_drop]
  omega
theorem seqS_nx {g h : DenS} {ρ ρ1 : En} {n m : Nat} (e : g ρ n = some (.nx ρ1, m)) : seqS g h ρ n = h ρ1 m := by
  unfold seqS
  rw [e] <;> rfl
theorem seqS_rt {g h : DenS} {ρ : En} {d : D} {n m : Nat} (e : g ρ n = some (.rt d, m)) : seqS g h ρ n = some (.rt d, m) := by
  unfold seqS
  rw [e] <;> rfl

theorem forS_at {lk : List Nat} {src : DenA} {g : DenG} {body : DenS} {ρ : En} {n m : Nat} {ds : List D} (e : src (fzE lk ρ) n = some (ds, m)) : forS lk src g body ρ n = forGo g body ds (fzE lk ρ) m := by
  unfold forS
  rw [e] <;> rfl

theorem rng1_at {f : DenB} {ρ : En} {n m : Nat} {j : Int} (e : f ρ n = some (.fr (.int j), m)) (h1 : j < 1000000) (h2 : -1000000 < j) : rng1S f ρ n = some (rangeD 0 j.toNat, m) := by
  unfold rng1S
  rw [e]
  show (if decide (j < 1000000) && decide (-1000000 < j) then some (rangeD 0 j.toNat, m) else none) = _
  rw [decide_eq_true h1, decide_eq_true h2]
  rfl
theorem rng2_at {f g : DenB} {ρ : En} {n m k : Nat} {i j : Int} (e : f ρ n = some (.fr (.int i), m)) (e2 : g ρ m = some (.fr (.int j), k)) (h1 : j < 1000000) (h2 : -1000000 < j) (h3 : i < 1000000) (h4 : -1000000 < i) : rng2S f g ρ n = some (rangeD i (j - i).toNat, k) := by
  unfold rng2S
  rw [e]
  simp only [Option.bind_some]
  rw [e2]
  show (if decide (j < 1000000) && decide (-1000000 < j) && decide (i < 1000000) && decide (-1000000 < i) then some (rangeD i (j - i).toNat, k) else none) = _
  rw [decide_eq_true h1, decide_eq_true h2, decide_eq_true h3, decide_eq_true h4]
  rfl

/-! ## the draws of a script -/
def B_law_draws : DenS := (seqS (setS 2 [] (.own false) (lstV nilA)) (seqS (setS 3 [] .no (dLit (.int 7))) (seqS (forS [] (rng1S (dB (lenKV 0))) (nameG 4) (seqS (setS 5 [] .no (call1 absD (consB (dB (call1 intD (consB (dB (ixKV 0 (dVarB 4))) nilB))) nilB))) (seqS (setS 3 [] .no (bin2 modD (dB (call1 intD (consB (dB (bin2 addD (dB (bin2 addD (dB (bin2 mulD (dVarB 3) (dB (dLit (.int 48271))))) (dB (bin2 modD (dVarB 5) (dB (dLit (.int 1000003))))))) (dVarB 4))) nilB))) (dB (dLit (.int 65537))))) (seqS (setS 6 [] .no (dLit (.int 0))) (seqS (ifS [] (bin2 geD (dVarB 5) (dB (bin2 powD (dB (dLit (.int 10))) (dB (dLit (.int 18)))))) (seqS (setS 6 [5] .no (dVar 5)) skipS) (seqS (appS 2 [] (bin2 modD (dB (call1 intD (consB (dVarB 5) nilB))) (dB (dLit (.int 997))))) (seqS (appS 2 [] (bin2 modD (dB (bin2 modD (dB (call1 intD (consB (dB (bin2 addD (dB (bin2 mulD (dVarB 3) (dB (dLit (.int 69621))))) (dB (dLit (.int 5))))) nilB))) (dB (dLit (.int 65521))))) (dB (dLit (.int 997))))) skipS))) (seqS (forS [] (rng1S (dB (dLit (.int 60)))) (nameG 7) (seqS (ifS [] (bin2 gtD (dVarB 6) (dB (dLit (.int 0)))) (seqS (appS 2 [] (bin2 modD (dB (call1 intD (consB (dVarB 6) nilB))) (dB (dLit (.int 997))))) (seqS (setS 6 [] .no (bin2 fdivD (dVarB 6) (dB (dLit (.int 997))))) skipS)) skipS) skipS)) skipS)))))) (seqS (forS [] (rng1S (dVarB 1)) (nameG 4) (seqS (setS 3 [] .no (bin2 modD (dB (call1 intD (consB (dB (bin2 addD (dB (bin2 addD (dB (bin2 mulD (dVarB 3) (dB (dLit (.int 16807))))) (dVarB 4))) (dB (dLit (.int 1))))) nilB))) (dB (dLit (.int 65537))))) (seqS (appS 2 [] (bin2 modD (dB (call1 intD (consB (dVarB 3) nilB))) (dB (dLit (.int 997))))) skipS))) (seqS (retS [] (slcV (dVarB 2) noO (someO (dVarB 1)))) skipS)))))
def drIn : DenS := (seqS (ifS [] (bin2 gtD (dVarB 6) (dB (dLit (.int 0)))) (seqS (appS 2 [] (bin2 modD (dB (call1 intD (consB (dVarB 6) nilB))) (dB (dLit (.int 997))))) (seqS (setS 6 [] .no (bin2 fdivD (dVarB 6) (dB (dLit (.int 997))))) skipS)) skipS) skipS)
abbrev drE (ns ds : List Int) (m : Int) (x4 x5 x6 x7 : Option Sl) : En := [some (.ks ns), some (.fr (.int 200)), some (.ol (ds.map .int)), some (.fr (.int m)), x4, x5, x6, x7]
theorem snoc_map (ds : List Int) (z : Int) : ds.map PyData.int ++ [.int z] = (ds ++ [z]).map PyData.int := by rw [List.map_append] <;> rfl
theorem dr_in (ns ds : List Int) (m r : Int) (x4 x5 x7 : Option Sl) (n : Nat) (hl : ds.length + 70 ≤ LIM) :
    ∃ ds' r' x7', ds'.length ≤ ds.length + 60 ∧ forGo (nameG 7) drIn (rangeD 0 60) (drE ns ds m x4 x5 (some (.fr (.int r))) x7) n = some (.nx (drE ns ds' m x4 x5 (some (.fr (.int r'))) x7'), n) := by
  obtain ⟨ρ', n', e, ds', r', x7', h1, rfl, rfl⟩ := forGo_fold (g := nameG 7) (body := drIn) (all := rangeD 0 60) (fun pre ρ n2 => ∃ ds' r' x7', ds'.length ≤ ds.length + pre.length ∧ ρ = drE ns ds' m x4 x5 (some (.fr (.int r'))) x7' ∧ n2 = n) (by
    rintro pre d post ρ n2 hall ⟨ds', r', x7', h1, rfl, rfl⟩
    have hp : pre.length ≤ 60 := by
      have := congrArg List.length hall
      rw [rangeD_length, List.length_append] at this
      omega
    have h2 : (ds'.map PyData.int).length < LIM := by rw [List.length_map]; omega
    by_cases hr : 0 < r'
    · refine ⟨_, drE ns (ds' ++ [r' % 997]) m x4 x5 (some (.fr (.int (r' / 997)))) (some (.fr d)), n2, rfl, ?_, _, _, _, by simp; omega, rfl, rfl⟩
      simp only [drIn, drE, setS, par2S, par3S, asgS, retS, seqS, skipS, ifS, forS, appS, extS, augD, dputS, brkS, contS, fzE, fz1, eget, eset, mkS, dLit, dVar, dVarB, dB, bin2, bin2S, bin2R, un1, consA, nilA, consB, nilB, tupV, lstV, call1, callV, toDs, Sl.toD, rng1S, rng2S, lenKV, ixKV, nameG, tupG, consG, nilG, noO, someO, slcV, andV, orV, notV, iteV, chV, isC, anyS, anyN, itemsS, itemsN, drawV, isiV, addD, subD, modD, fdivD, absD, intD, ltD, leD, gtD, geD, negD, mul_r, Option.bind_some, Option.map_some, Option.bind_none, Option.map_none, Int.reduceLT, Int.reduceLE, decide_true, decide_false, if_true, if_false, Bool.and_self, Bool.and_true, Bool.true_and, List.length_cons, List.length_nil, reduceCtorEq, hr, h2, BIG, ← snoc_map]
    · refine ⟨_, drE ns ds' m x4 x5 (some (.fr (.int r'))) (some (.fr d)), n2, rfl, ?_, _, _, _, by simp; omega, rfl, rfl⟩
      simp only [drIn, drE, setS, par2S, par3S, asgS, retS, seqS, skipS, ifS, forS, appS, extS, augD, dputS, brkS, contS, fzE, fz1, eget, eset, mkS, dLit, dVar, dVarB, dB, bin2, bin2S, bin2R, un1, consA, nilA, consB, nilB, tupV, lstV, call1, callV, toDs, Sl.toD, rng1S, rng2S, lenKV, ixKV, nameG, tupG, consG, nilG, noO, someO, slcV, andV, orV, notV, iteV, chV, isC, anyS, anyN, itemsS, itemsN, drawV, isiV, addD, subD, modD, fdivD, absD, intD, ltD, leD, gtD, geD, negD, mul_r, Option.bind_some, Option.map_some, Option.bind_none, Option.map_none, Int.reduceLT, Int.reduceLE, decide_true, decide_false, if_true, if_false, Bool.and_self, Bool.and_true, Bool.true_and, List.length_cons, List.length_nil, reduceCtorEq, hr]) (rangeD 0 60) [] (drE ns ds m x4 x5 (some (.fr (.int r))) x7) n (List.nil_append _).symm ⟨ds, r, x7, by simp, rfl, rfl⟩
  rw [rangeD_length] at h1
  exact ⟨ds', r', x7', h1, e⟩

theorem pow18 : powD (.int 10) (.int 18) = some (.int 1000000000000000000) := by rfl
def drOut : DenS := (seqS (setS 5 [] .no (call1 absD (consB (dB (call1 intD (consB (dB (ixKV 0 (dVarB 4))) nilB))) nilB))) (seqS (setS 3 [] .no (bin2 modD (dB (call1 intD (consB (dB (bin2 addD (dB (bin2 addD (dB (bin2 mulD (dVarB 3) (dB (dLit (.int 48271))))) (dB (bin2 modD (dVarB 5) (dB (dLit (.int 1000003))))))) (dVarB 4))) nilB))) (dB (dLit (.int 65537))))) (seqS (setS 6 [] .no (dLit (.int 0))) (seqS (ifS [] (bin2 geD (dVarB 5) (dB (bin2 powD (dB (dLit (.int 10))) (dB (dLit (.int 18)))))) (seqS (setS 6 [5] .no (dVar 5)) skipS) (seqS (appS 2 [] (bin2 modD (dB (call1 intD (consB (dVarB 5) nilB))) (dB (dLit (.int 997))))) (seqS (appS 2 [] (bin2 modD (dB (bin2 modD (dB (call1 intD (consB (dB (bin2 addD (dB (bin2 mulD (dVarB 3) (dB (dLit (.int 69621))))) (dB (dLit (.int 5))))) nilB))) (dB (dLit (.int 65521))))) (dB (dLit (.int 997))))) skipS))) (seqS (forS [] (rng1S (dB (dLit (.int 60)))) (nameG 7) (seqS (ifS [] (bin2 gtD (dVarB 6) (dB (dLit (.int 0)))) (seqS (appS 2 [] (bin2 modD (dB (call1 intD (consB (dVarB 6) nilB))) (dB (dLit (.int 997))))) (seqS (setS 6 [] .no (bin2 fdivD (dVarB 6) (dB (dLit (.int 997))))) skipS)) skipS) skipS)) skipS)))))
theorem dr_turn (ns ds : List Int) (m k z : Int) (x4 x5 x6 x7 : Option Sl) (n : Nat) (hl : ds.length + 72 ≤ LIM) (hz : atI ns k = some z) :
    ∃ ds' m' x5' x6' x7', ds'.length ≤ ds.length + 62 ∧ drOut (drE ns ds m (some (.fr (.int k))) x5 x6 x7) n = some (.nx (drE ns ds' m' (some (.fr (.int k))) x5' x6' x7'), n) := by
  have h0 : (ds.map PyData.int).length < LIM := by rw [List.length_map]; omega
  have h1 : (ds.map PyData.int ++ [PyData.int ((if z < 0 then -z else z) % 997)]).length < LIM := by rw [List.length_append, List.length_map]; simp only [List.length_cons, List.length_nil]; omega
  have hs1 : smallI 48271 = true := by decide
  have hs2 : smallI 69621 = true := by decide
  by_cases hc : (1000000000000000000 : Int) ≤ (if z < 0 then -z else z)
  · obtain ⟨ds', r', x7', g1, g2⟩ := dr_in ns ds ((m * 48271 + (if z < 0 then -z else z) % 1000003 + k) % 65537) (if z < 0 then -z else z) (some (.fr (.int k))) (some (.fr (.int (if z < 0 then -z else z)))) x7 n (by omega)
    refine ⟨ds', (m * 48271 + (if z < 0 then -z else z) % 1000003 + k) % 65537, some (.fr (.int (if z < 0 then -z else z))), some (.fr (.int r')), x7', by omega, ?_⟩
    unfold drIn drE at g2
    simp only [drOut, drE, setS, par2S, par3S, asgS, retS, seqS, skipS, ifS, forS, appS, extS, augD, dputS, brkS, contS, fzE, fz1, eget, eset, mkS, dLit, dVar, dVarB, dB, bin2, bin2S, bin2R, un1, consA, nilA, consB, nilB, tupV, lstV, call1, callV, toDs, Sl.toD, rng1S, rng2S, lenKV, ixKV, nameG, tupG, consG, nilG, noO, someO, slcV, andV, orV, notV, iteV, chV, isC, anyS, anyN, itemsS, itemsN, drawV, isiV, addD, subD, modD, fdivD, absD, intD, ltD, leD, gtD, geD, negD, mul_r, Option.bind_some, Option.map_some, Option.bind_none, Option.map_none, Int.reduceLT, Int.reduceLE, decide_true, decide_false, if_true, if_false, Bool.and_self, Bool.and_true, Bool.true_and, List.length_cons, List.length_nil, reduceCtorEq, hz, hs1, hs2, pow18, hc, h0, h1, Int.reduceToNat, g2]
  · obtain ⟨ds', r', x7', g1, g2⟩ := dr_in ns (ds ++ [(if z < 0 then -z else z) % 997, ((m * 48271 + (if z < 0 then -z else z) % 1000003 + k) % 65537 * 69621 + 5) % 65521 % 997]) ((m * 48271 + (if z < 0 then -z else z) % 1000003 + k) % 65537) 0 (some (.fr (.int k))) (some (.fr (.int (if z < 0 then -z else z)))) x7 n (by simp only [List.length_append, List.length_cons, List.length_nil]; omega)
    refine ⟨ds', (m * 48271 + (if z < 0 then -z else z) % 1000003 + k) % 65537, some (.fr (.int (if z < 0 then -z else z))), some (.fr (.int r')), x7', by simp only [List.length_append, List.length_cons, List.length_nil] at g1; omega, ?_⟩
    unfold drIn drE at g2
    rw [List.map_append] at g2
    simp only [List.map_cons, List.map_nil] at g2
    simp only [drOut, drE, setS, par2S, par3S, asgS, retS, seqS, skipS, ifS, forS, appS, extS, augD, dputS, brkS, contS, fzE, fz1, eget, eset, mkS, dLit, dVar, dVarB, dB, bin2, bin2S, bin2R, un1, consA, nilA, consB, nilB, tupV, lstV, call1, callV, toDs, Sl.toD, rng1S, rng2S, lenKV, ixKV, nameG, tupG, consG, nilG, noO, someO, slcV, andV, orV, notV, iteV, chV, isC, anyS, anyN, itemsS, itemsN, drawV, isiV, addD, subD, modD, fdivD, absD, intD, ltD, leD, gtD, geD, negD, mul_r, Option.bind_some, Option.map_some, Option.bind_none, Option.map_none, Int.reduceLT, Int.reduceLE, decide_true, decide_false, if_true, if_false, Bool.and_self, Bool.and_true, Bool.true_and, List.length_cons, List.length_nil, reduceCtorEq, hz, hs1, hs2, pow18, hc, h0, h1, Int.reduceToNat, List.append_assoc, List.cons_append, List.nil_append, g2]
theorem atI_nat' {ns : List Int} {k : Nat} (h : k < ns.length) : ∃ z, atI ns (k : Int) = some z := by
  unfold L2.atI
  have : ixN ns.length (k : Int) = some k := by
    unfold L2.ixN
    rw [if_pos (by omega), if_pos (by omega), Int.toNat_natCast]
  rw [this]
  exact ⟨ns[k], List.getElem?_eq_getElem h⟩

def drTail : DenS := (seqS (setS 3 [] .no (bin2 modD (dB (call1 intD (consB (dB (bin2 addD (dB (bin2 addD (dB (bin2 mulD (dVarB 3) (dB (dLit (.int 16807))))) (dVarB 4))) (dB (dLit (.int 1))))) nilB))) (dB (dLit (.int 65537))))) (seqS (appS 2 [] (bin2 modD (dB (call1 intD (consB (dVarB 3) nilB))) (dB (dLit (.int 997))))) skipS))
theorem dr_tail (ns ds : List Int) (m k : Int) (x4 x5 x6 x7 : Option Sl) (n : Nat) (hl : ds.length < LIM) :
    drTail (drE ns ds m (some (.fr (.int k))) x5 x6 x7) n = some (.nx (drE ns (ds ++ [(m * 16807 + k + 1) % 65537 % 997]) ((m * 16807 + k + 1) % 65537) (some (.fr (.int k))) x5 x6 x7), n) := by
  have h0 : (ds.map PyData.int).length < LIM := by rw [List.length_map]; omega
  have hs1 : smallI 16807 = true := by decide
  simp only [drTail, drE, setS, par2S, par3S, asgS, retS, seqS, skipS, ifS, forS, appS, extS, augD, dputS, brkS, contS, fzE, fz1, eget, eset, mkS, dLit, dVar, dVarB, dB, bin2, bin2S, bin2R, un1, consA, nilA, consB, nilB, tupV, lstV, call1, callV, toDs, Sl.toD, rng1S, rng2S, lenKV, ixKV, nameG, tupG, consG, nilG, noO, someO, slcV, andV, orV, notV, iteV, chV, isC, anyS, anyN, itemsS, itemsN, drawV, isiV, addD, subD, modD, fdivD, absD, intD, ltD, leD, gtD, geD, negD, mul_r, Option.bind_some, Option.map_some, Option.bind_none, Option.map_none, Int.reduceLT, Int.reduceLE, decide_true, decide_false, if_true, if_false, Bool.and_self, Bool.and_true, Bool.true_and, List.length_cons, List.length_nil, reduceCtorEq, hs1, h0, ← snoc_map]
theorem sIx200 (n : Nat) : HT.sIx n n (some 200) ≤ 200 := by
  show (if (200 : Int) < 0 then ((200 : Int) + (n : Int)).toNat else min (200 : Int).toNat n) ≤ 200
  rw [if_neg (by omega)]
  exact Nat.min_le_left _ _
theorem draws_ok (ns : List Int) (h : ns.length ≤ 63) : ∃ ds : List Int, ds.length ≤ 1000 ∧ ∃ n', B_law_draws (some (.ks ns) :: some (.fr (.int 200)) :: List.replicate 6 none) 0 = some (.rt (.list (ds.map .int)), n') := by
  have hL : LIM = 1000000 := rfl
  -- the first loop
  obtain ⟨ρ1, n1, e1, ds1, m1, x4, x5, x6, x7, h1, rfl, rfl⟩ := forGo_fold (g := nameG 4) (body := drOut) (all := rangeD 0 ns.length) (fun pre ρ n2 => ∃ ds m x4 x5 x6 x7, ds.length ≤ 62 * pre.length ∧ ρ = drE ns ds m x4 x5 x6 x7 ∧ n2 = 0) (by
    rintro pre d post ρ n2 hall ⟨ds, m, x4, x5, x6, x7, h1, rfl, rfl⟩
    have hp : pre.length < ns.length := by
      have := congrArg List.length hall
      rw [rangeD_length, List.length_append, List.length_cons] at this
      omega
    have hd : d = .int (0 + ((pre.length : Nat) : Int)) := by
      have := rangeD_getD (lo := 0) hp
      rw [hall] at this
      rw [List.getD_eq_getElem?_getD, List.getElem?_append_right (Nat.le_refl _), Nat.sub_self] at this
      exact this
    rw [Int.zero_add] at hd
    obtain ⟨z, hz⟩ := atI_nat' hp
    obtain ⟨ds', m', x5', x6', x7', g1, g2⟩ := dr_turn ns ds m _ z x4 x5 x6 x7 0 (by omega) hz
    refine ⟨drE ns ds m (some (.fr d)) x5 x6 x7, _, _, rfl, by rw [hd]; exact g2, ds', m', _, x5', x6', x7', ?_, rfl, rfl⟩
    rw [List.length_append, List.length_singleton]
    omega) (rangeD 0 ns.length) [] (drE ns [] 7 none none none none) 0 (List.nil_append _).symm ⟨[], 7, none, none, none, none, by simp, rfl, rfl⟩
  rw [rangeD_length] at h1
  -- the second
  obtain ⟨ρ2, n2, e2, ds2, m2, y4, h2, rfl, rfl⟩ := forGo_fold (g := nameG 4) (body := drTail) (all := rangeD 0 200) (fun pre ρ n2 => ∃ ds m x4, ds.length ≤ ds1.length + pre.length ∧ ρ = drE ns ds m x4 x5 x6 x7 ∧ n2 = 0) (by
    rintro pre d post ρ n2 hall ⟨ds, m, x4, h1, rfl, rfl⟩
    have hp : pre.length < 200 := by
      have := congrArg List.length hall
      rw [rangeD_length, List.length_append, List.length_cons] at this
      omega
    have hd : d = .int (0 + ((pre.length : Nat) : Int)) := by
      have := rangeD_getD (lo := 0) hp
      rw [hall] at this
      rw [List.getD_eq_getElem?_getD, List.getElem?_append_right (Nat.le_refl _), Nat.sub_self] at this
      exact this
    refine ⟨drE ns ds m (some (.fr d)) x5 x6 x7, _, _, rfl, by rw [hd]; exact dr_tail ns ds m _ x4 x5 x6 x7 0 (by omega), _, _, _, ?_, rfl, rfl⟩
    rw [List.length_append, List.length_append, List.length_singleton, List.length_singleton]
    omega) (rangeD 0 200) [] (drE ns ds1 m1 x4 x5 x6 x7) 0 (List.nil_append _).symm ⟨ds1, m1, x4, by simp, rfl, rfl⟩
  refine ⟨cutD ds2 none (some 200), ?_, 0, ?_⟩
  · have : (cutD ds2 none (some 200)).length ≤ 200 := by
      unfold cutD
      rw [List.length_take]
      have := sIx200 ds2.length
      omega
    omega
  · unfold drE drOut at e1
    unfold drE drTail at e2
    simp only [List.map_nil] at e1
    have a1 : setS 2 [] (.own false) (lstV nilA) (some (.ks ns) :: some (.fr (.int 200)) :: List.replicate 6 none) 0 = some (.nx [some (.ks ns), some (.fr (.int 200)), some (.ol []), none, none, none, none, none], 0) := by
      simp only [List.replicate, setS, par2S, par3S, asgS, retS, seqS, skipS, ifS, forS, appS, extS, augD, dputS, brkS, contS, fzE, fz1, eget, eset, mkS, dLit, dVar, dVarB, dB, bin2, bin2S, bin2R, un1, consA, nilA, consB, nilB, tupV, lstV, call1, callV, toDs, Sl.toD, rng1S, rng2S, lenKV, ixKV, nameG, tupG, consG, nilG, noO, someO, slcV, andV, orV, notV, iteV, chV, isC, anyS, anyN, itemsS, itemsN, drawV, isiV, addD, subD, modD, fdivD, absD, intD, ltD, leD, gtD, geD, negD, mul_r, Option.bind_some, Option.map_some, Option.bind_none, Option.map_none, Int.reduceLT, Int.reduceLE, decide_true, decide_false, if_true, if_false, Bool.and_self, Bool.and_true, Bool.true_and, List.length_cons, List.length_nil, reduceCtorEq, Nat.zero_le]
    have a2 : setS 3 [] .no (dLit (.int 7)) [some (.ks ns), some (.fr (.int 200)), some (.ol []), none, none, none, none, none] 0 = some (.nx [some (.ks ns), some (.fr (.int 200)), some (.ol []), some (.fr (.int 7)), none, none, none, none], 0) := by
      simp only [setS, par2S, par3S, asgS, retS, seqS, skipS, ifS, forS, appS, extS, augD, dputS, brkS, contS, fzE, fz1, eget, eset, mkS, dLit, dVar, dVarB, dB, bin2, bin2S, bin2R, un1, consA, nilA, consB, nilB, tupV, lstV, call1, callV, toDs, Sl.toD, rng1S, rng2S, lenKV, ixKV, nameG, tupG, consG, nilG, noO, someO, slcV, andV, orV, notV, iteV, chV, isC, anyS, anyN, itemsS, itemsN, drawV, isiV, addD, subD, modD, fdivD, absD, intD, ltD, leD, gtD, geD, negD, mul_r, Option.bind_some, Option.map_some, Option.bind_none, Option.map_none, Int.reduceLT, Int.reduceLE, decide_true, decide_false, if_true, if_false, Bool.and_self, Bool.and_true, Bool.true_and, List.length_cons, List.length_nil, reduceCtorEq]
    have a3 : rng1S (dB (lenKV 0)) [some (.ks ns), some (.fr (.int 200)), some (.ol []), some (.fr (.int 7)), none, none, none, none] 0 = some (rangeD 0 ns.length, 0) := by
      have := rng1_at (f := dB (lenKV 0)) (ρ := [some (.ks ns), some (.fr (.int 200)), some (.ol []), some (.fr (.int 7)), none, none, none, none]) (n := 0) (m := 0) (j := (ns.length : Int)) rfl (by omega) (by omega)
      rw [Int.toNat_natCast] at this
      exact this
    have a4 : rng1S (dVarB 1) [some (.ks ns), some (.fr (.int 200)), some (.ol (ds1.map .int)), some (.fr (.int m1)), x4, x5, x6, x7] 0 = some (rangeD 0 200, 0) :=
      rng1_at (f := dVarB 1) (m := 0) (j := 200) rfl (by omega) (by omega)
    unfold B_law_draws
    rw [seqS_nx a1, seqS_nx a2, seqS_nx ((forS_at (lk := []) a3).trans e1), seqS_nx ((forS_at (lk := []) a4).trans e2)]
    simp only [setS, par2S, par3S, asgS, retS, seqS, skipS, ifS, forS, appS, extS, augD, dputS, brkS, contS, fzE, fz1, eget, eset, mkS, dLit, dVar, dVarB, dB, bin2, bin2S, bin2R, un1, consA, nilA, consB, nilB, tupV, lstV, call1, callV, toDs, Sl.toD, rng1S, rng2S, lenKV, ixKV, nameG, tupG, consG, nilG, noO, someO, slcV, andV, orV, notV, iteV, chV, isC, anyS, anyN, itemsS, itemsN, drawV, isiV, addD, subD, modD, fdivD, absD, intD, ltD, leD, gtD, geD, negD, mul_r, Option.bind_some, Option.map_some, Option.bind_none, Option.map_none, Int.reduceLT, Int.reduceLE, decide_true, decide_false, if_true, if_false, Bool.and_self, Bool.and_true, Bool.true_and, List.length_cons, List.length_nil, reduceCtorEq, slcD, cutD_map]
end WH

namespace WH
open PySem PySem.Spec PyProof.Rows L2

/-! ## comprehensions, read -/
/-- no draws within -/
theorem lcGo_det {α : Type} {g : DenG} {t e : Den} {ρw : En} {enc h : α → D} {p : α → Bool} {n : Nat} : ∀ {l : List α}, (∀ a ∈ l, ∃ ρ1, g ρw (enc a) = some ρ1 ∧ t ρ1 n = some (.bool (p a), n) ∧ (p a = true → e ρ1 n = some (h a, n))) → lcGo g t e ρw (l.map enc) n = some ((l.filter p).map h, n)
  | [], _ => rfl
  | a :: l, H => by
    obtain ⟨ρ1, e1, e2, e3⟩ := H a List.mem_cons_self
    have ih := lcGo_det (l := l) fun b hb => H b (List.mem_cons_of_mem _ hb)
    rw [List.map_cons]
    unfold lcGo
    rw [e1]
    simp only [Option.bind_some]
    rw [e2]
    cases hp : p a with
    | true =>
      simp only [Option.bind_some]
      rw [e3 hp]
      simp only [Option.bind_some]
      rw [ih, List.filter_cons_of_pos hp] <;> rfl
    | false =>
      simp only [Option.bind_some]
      rw [ih, List.filter_cons_of_neg (by rw [hp]; exact Bool.false_ne_true)]
/-- no test -/
theorem lcGo_all {α : Type} {g : DenG} {e : Den} {ρw : En} {enc h : α → D} {n : Nat} {l : List α} (H : ∀ a ∈ l, ∃ ρ1, g ρw (enc a) = some ρ1 ∧ e ρ1 n = some (h a, n)) : lcGo g (dLit (.bool true)) e ρw (l.map enc) n = some (l.map h, n) := by
  have := lcGo_det (g := g) (t := dLit (.bool true)) (e := e) (ρw := ρw) (enc := enc) (h := h) (p := fun _ => true) (n := n) (l := l) fun a ha => by
    obtain ⟨ρ1, e1, e2⟩ := H a ha
    exact ⟨ρ1, e1, rfl, fun _ => e2⟩
  rw [this, List.filter_eq_self.mpr fun _ _ => rfl]
/-- draws within: the items are whatever P says -/
theorem lcGo_draw {g : DenG} {e : Den} {ρw : En} {P : D → Prop} : ∀ {ds : List D} {n : Nat}, (∀ d ∈ ds, ∀ n, ∃ ρ1 y n2, g ρw d = some ρ1 ∧ e ρ1 n = some (y, n2) ∧ P y) → ∃ ys n2, lcGo g (dLit (.bool true)) e ρw ds n = some (ys, n2) ∧ ys.length = ds.length ∧ ∀ y ∈ ys, P y
  | [], n, _ => ⟨[], n, rfl, rfl, fun y h => by simp at h⟩
  | d :: ds, n, H => by
    obtain ⟨ρ1, y, n2, e1, e2, hp⟩ := H d List.mem_cons_self n
    obtain ⟨ys, n3, e3, hl, hys⟩ := lcGo_draw (n := n2) fun b hb => H b (List.mem_cons_of_mem _ hb)
    refine ⟨y :: ys, n3, ?_, by rw [List.length_cons, hl, List.length_cons], fun z hz => ?_⟩
    · unfold lcGo
      rw [e1]
      simp only [Option.bind_some]
      show ((e ρ1 n).bind _) = _
      rw [e2]
      simp only [Option.bind_some]
      rw [e3] <;> rfl
    · rcases List.mem_cons.mp hz with h | h
      · rw [h]; exact hp
      · exact hys z h
theorem lcV_at {src : DenA} {g : DenG} {t e : Den} {vs : List Nat} {ρ : En} {n m n2 : Nat} {ds ys : List D} (h1 : src ρ n = some (ds, m)) (hl : ds.length ≤ LIM) (h2 : lcGo g t e (wipeE ρ vs) ds m = some (ys, n2)) : lcV src g t e vs ρ n = some (.list ys, n2) := by
  unfold lcV
  rw [h1]
  show (if ds.length ≤ LIM then _ else none) = _
  rw [if_pos hl, h2] <;> rfl
theorem intsOf_map : ∀ ns : List Int, intsOf (ns.map .int) = some ns
  | [] => rfl
  | n :: ns => by rw [List.map_cons]; unfold intsOf; rw [intsOf_map ns] <;> rfl
theorem boolsOf_map : ∀ ns : List Bool, boolsOf (ns.map .bool) = some ns
  | [] => rfl
  | n :: ns => by rw [List.map_cons]; unfold boolsOf; rw [boolsOf_map ns] <;> rfl
theorem allD_map (bs : List Bool) : allD [.list (bs.map .bool)] = some (.bool (bs.all id)) := by
  show (boolsOf (bs.map .bool)).map _ = _
  rw [boolsOf_map] <;> rfl
theorem anyD_map (bs : List Bool) : anyD [.list (bs.map .bool)] = some (.bool (bs.any id)) := by
  show (boolsOf (bs.map .bool)).map _ = _
  rw [boolsOf_map] <;> rfl
theorem sumD_map (ns : List Int) : sumD [.list (ns.map .int)] = some (.int ns.sum) := by
  show (intsOf (ns.map .int)).map _ = _
  rw [intsOf_map] <;> rfl
/-- ints out of data -/
theorem ints_of_all {P : Int → Prop} : ∀ {ys : List D}, (∀ y ∈ ys, ∃ z, y = .int z ∧ P z) → ∃ ns : List Int, ys = ns.map .int ∧ ∀ z ∈ ns, P z
  | [], _ => ⟨[], rfl, fun z h => by simp at h⟩
  | y :: ys, H => by
    obtain ⟨z, rfl, hz⟩ := H y List.mem_cons_self
    obtain ⟨ns, rfl, hn⟩ := ints_of_all fun b hb => H b (List.mem_cons_of_mem _ hb)
    exact ⟨z :: ns, rfl, fun x hx => by rcases List.mem_cons.mp hx with h | h; rw [h]; exact hz; exact hn x h⟩
theorem draw_at {o : Nat → Int} {i : Nat} {f : Den} {ρ : En} {n k : Nat} {m : Int} (hw : eget ρ i = some .ww) (hf : f ρ n = some (.int m, k)) (hm : 0 < m) : drawV o i f ρ n = some (.int (o k % m), k + 1) := by
  unfold drawV
  rw [hw]
  simp only
  rw [hf]
  show (if 0 < m then _ else none) = _
  rw [if_pos hm]
theorem mod_lt {a m : Int} (h : 0 < m) : 0 ≤ a % m ∧ a % m < m := ⟨Int.emod_nonneg _ (by omega), Int.emod_lt_of_pos _ h⟩
/-! ## lists of ints compared -/
theorem plain_ints : ∀ ns : List Int, PyData.plainAll (ns.map .int) = true
  | [] => by simp [PyData.plainAll]
  | n :: ns => by rw [List.map_cons]; simp [PyData.plainAll, PyData.plain, plain_ints ns]
theorem depth_ints0 (ns : List Int) : PyData.depthAll (ns.map .int) = 0 := PySem.W.depth_ints ns
theorem eqv_ints : ∀ ns ms : List Int, PyData.eqvAll (ns.map .int) (ms.map .int) = decide (ns = ms)
  | [], [] => by simp [PyData.eqvAll]
  | [], _ :: _ => by simp [PyData.eqvAll]
  | _ :: _, [] => by simp [PyData.eqvAll]
  | n :: ns, m :: ms => by
    rw [List.map_cons, List.map_cons]
    simp only [PyData.eqvAll, eqv_ints ns ms, PyData.eqv]
    by_cases h : n = m <;> by_cases h2 : ns = ms <;> simp [h, h2]
theorem fnD_rt {nn : Nat} {body : DenS} {ds : List D} {env : En} {d : D} {m : Nat} (he : ds.map (fun d => some (Sl.fr d)) ++ List.replicate (nn - ds.length) none = env) (h : body env 0 = some (.rt d, m)) : fnD nn body ds = some d := by
  unfold fnD
  rw [he, h] <;> rfl
theorem setS_at {i : Nat} {lk : List Nat} {fr : Fr} {f : Den} {ρ : En} {n m : Nat} {d : D} (h : f (fzE lk ρ) n = some (d, m)) : setS i lk fr f ρ n = some (.nx (eset (fzE lk ρ) i (some (mkS fr d))), m) := by
  unfold setS
  rw [h] <;> rfl
theorem retS_at {lk : List Nat} {f : Den} {ρ : En} {n m : Nat} {d : D} (h : f (fzE lk ρ) n = some (d, m)) : retS lk f ρ n = some (.rt d, m) := by
  unfold retS
  rw [h] <;> rfl
theorem ifS_f {lk : List Nat} {t : Den} {g h : DenS} {ρ : En} {n m : Nat} (e : t (fzE lk ρ) n = some (.bool false, m)) : ifS lk t g h ρ n = h (fzE lk ρ) m := by
  unfold ifS
  rw [e] <;> rfl
theorem ifS_t {lk : List Nat} {t : Den} {g h : DenS} {ρ : En} {n m : Nat} (e : t (fzE lk ρ) n = some (.bool true, m)) : ifS lk t g h ρ n = g (fzE lk ρ) m := by
  unfold ifS
  rw [e] <;> rfl
theorem eqD_ints (ns ms : List Int) : eqD (.list (ns.map .int)) (.list (ms.map .int)) = some (.bool (decide (ns = ms))) := by
  unfold eqD
  simp only [PyData.plain, plain_ints, PyData.depth, depth_ints0, PyData.eqv, eqv_ints]
  simp
theorem eqD_tints (ns ms : List Int) : eqD (.tuple (ns.map .int)) (.tuple (ms.map .int)) = some (.bool (decide (ns = ms))) := by
  unfold eqD
  simp only [PyData.plain, plain_ints, PyData.depth, depth_ints0, PyData.eqv, eqv_ints]
  simp
theorem neD_tints (ns ms : List Int) : neD (.tuple (ns.map .int)) (.tuple (ms.map .int)) = some (.bool (!decide (ns = ms))) := by
  unfold neD
  simp only [PyData.plain, plain_ints, PyData.depth, depth_ints0, PyData.eqv, eqv_ints]
  simp
theorem eqD_int (i j : Int) : eqD (.int i) (.int j) = some (.bool (decide (i = j))) := by
  unfold eqD
  simp [PyData.plain, PyData.depth, PyData.eqv]
  by_cases h : i = j <;> simp [h]
theorem neD_int (i j : Int) : neD (.int i) (.int j) = some (.bool (!decide (i = j))) := by
  unfold neD
  simp [PyData.plain, PyData.depth, PyData.eqv]
  by_cases h : i = j <;> simp [h]
theorem list_nil : PyData.list [] = .list (([] : List Int).map .int) := rfl
theorem tuple_nil : PyData.tuple [] = .tuple (([] : List Int).map .int) := rfl
end WH

namespace K03
open PySem PySem.Spec PyProof.Rows L2 WH
def FUEL : Nat := 1000000000
def topS (i : Nat) : Stmt := PySem.Challenge.pw_windheld_k03_whole_known_patches_on_a_ro.main.body.getD i (.Pass ⟨0, 0, 0, 0⟩)
abbrev s_is_number : Stmt := topS 1
theorem sc_is_number : FnScope ["thing"] ["thing"] (defScope s_is_number) := ⟨rfl, rfl, rfl, by decide +kernel, rfl, by decide +kernel, by decide +kernel⟩
abbrev s_is_ascending : Stmt := topS 2
theorem sc_is_ascending : FnScope ["things", "k"] ["things"] (defScope s_is_ascending) := ⟨rfl, rfl, rfl, by decide +kernel, rfl, by decide +kernel, by decide +kernel⟩
abbrev s_is_number_set : Stmt := topS 3
theorem sc_is_number_set : FnScope ["thing", "one"] ["thing"] (defScope s_is_number_set) := ⟨rfl, rfl, rfl, by decide +kernel, rfl, by decide +kernel, by decide +kernel⟩
abbrev s_patch_row : Stmt := topS 5
theorem sc_patch_row : FnScope ["seams", "wide", "found", "seam"] ["seams", "wide"] (defScope s_patch_row) := ⟨rfl, rfl, rfl, by decide +kernel, rfl, by decide +kernel, by decide +kernel⟩
abbrev s_is_patched : Stmt := topS 6
theorem sc_is_patched : FnScope ["seams", "wide", "begins", "seam", "begin"] ["seams", "wide", "begins"] (defScope s_is_patched) := ⟨rfl, rfl, rfl, by decide +kernel, rfl, by decide +kernel, by decide +kernel⟩
abbrev s__law_draws : Stmt := topS 8
theorem sc__law_draws : FnScope ["script", "many", "draws", "mixed", "k", "cell", "rest", "turn"] ["script", "many"] (defScope s__law_draws) := ⟨rfl, rfl, rfl, by decide +kernel, rfl, by decide +kernel, by decide +kernel⟩
abbrev s__law_next : Stmt := topS 9
theorem sc__law_next : FnScope ["w", "many"] ["w", "many"] (defScope s__law_next) := ⟨rfl, rfl, rfl, by decide +kernel, rfl, by decide +kernel, by decide +kernel⟩
abbrev s__law_holds : Stmt := topS 10
theorem sc__law_holds : FnScope ["w", "seams", "wide", "begins", "now", "seam", "told", "apart", "last", "k"] ["w"] (defScope s__law_holds) := ⟨rfl, rfl, rfl, by decide +kernel, rfl, by decide +kernel, by decide +kernel⟩
abbrev s_law : Stmt := topS 11
theorem sc_law : FnScope ["script", "w", "turn"] ["script"] (defScope s_law) := ⟨rfl, rfl, rfl, by decide +kernel, rfl, by decide +kernel, by decide +kernel⟩
def B_is_number : DenS := (seqS (retS [] (andV (isiV "int" (dVarB 0)) (notV (isiV "bool" (dVarB 0))))) skipS)
def D_is_number : List D → Option D := fnD 1 B_is_number
def B_is_ascending : DenS := (seqS (retS [] (call1 allD (consB (dB (lcV (rng1S (dB (bin2 subD (dB (call1 lenD (consB (dVarB 0) nilB))) (dB (dLit (.int 1)))))) (nameG 1) (dLit (.bool true)) (bin2 ltD (dB (bin2S ixD (dVarB 0) (dVarB 1))) (dB (bin2S ixD (dVarB 0) (dB (bin2 addD (dVarB 1) (dB (dLit (.int 1)))))))) [1])) nilB))) skipS)
def D_is_ascending : List D → Option D := fnD 2 B_is_ascending
def B_is_number_set : DenS := (seqS (retS [0] (andV (isiV "tuple" (dVarB 0)) (andV (call1 allD (consB (dB (lcV (anyS (dVarB 0)) (nameG 1) (dLit (.bool true)) (callV D_is_number (consA (dVar 1) nilA)) [1])) nilB)) (callV D_is_ascending (consA (dVar 0) nilA))))) skipS)
def D_is_number_set : List D → Option D := fnD 2 B_is_number_set
def B_patch_row : DenS := (seqS (setS 2 [] (.own false) (lstV nilA)) (seqS (forS [0] (anyS (dB (dVar 0))) (nameG 3) (seqS (ifS [] (orV (bin2 eqD (dVarB 2) (dB (lstV nilA))) (bin2 geD (dVarB 3) (dB (bin2 addD (dB (bin2S ixD (dVarB 2) (dB (un1 negD (dB (dLit (.int 1))))))) (dVarB 1))))) (seqS (appS 2 [3] (dVar 3)) skipS) skipS) skipS)) (seqS (retS [] (call1 tupD (consB (dVarB 2) nilB))) skipS)))
def D_patch_row : List D → Option D := fnD 4 B_patch_row
def B_is_patched : DenS := (seqS (ifS [2] (notV (callV D_is_number_set (consA (dVar 2) nilA))) (seqS (retS [] (dLit (.bool false))) skipS) skipS) (seqS (retS [] (call1 allD (consB (dB (lcV (anyS (dVarB 0)) (nameG 3) (dLit (.bool true)) (call1 anyD (consB (dB (lcV (anyS (dVarB 2)) (nameG 4) (dLit (.bool true)) (chV leD ltD (dVarB 4) (dVarB 3) (dB (bin2 addD (dVarB 4) (dVarB 1)))) [4])) nilB)) [3])) nilB))) skipS))
def D_is_patched : List D → Option D := fnD 5 B_is_patched
def B_law_holds (o : Nat → Int) : DenS := (seqS (setS 1 [] .no (call1 tupD (consB (dB (un1 setSortD (dB (lcV (rng1S (dB (drawV o 0 (dLit (.int 9))))) (nameG 9) (dLit (.bool true)) (drawV o 0 (dLit (.int 30))) [9])))) nilB))) (seqS (setS 2 [] (.own false) (bin2 addD (dB (dLit (.int 1))) (dB (drawV o 0 (dLit (.int 7)))))) (seqS (par2S 3 4 [] [] (.own false) .no (lstV nilA) (dLit .none)) (seqS (forS [1] (anyS (dB (dVar 1))) (nameG 5) (seqS (ifS [] (orV (un1 (isC false .none) (dVarB 4)) (bin2 geD (dVarB 5) (dB (bin2 addD (dVarB 4) (dVarB 2))))) (seqS (setS 4 [5] .no (dVar 5)) (seqS (appS 3 [4] (dVar 4)) skipS)) skipS) skipS)) (seqS (setS 6 [1, 2] .no (callV D_patch_row (consA (dVar 1) (consA (dVar 2) nilA)))) (seqS (ifS [1, 2, 6] (orV (bin2 neD (dB (call1 tupD (consB (dVarB 6) nilB))) (dB (call1 tupD (consB (dVarB 3) nilB)))) (un1 (isC true (.bool true)) (dB (callV D_is_patched (consA (dVar 1) (consA (dVar 2) (consA (dVar 6) nilA))))))) (seqS (retS [] (dLit (.bool false))) skipS) skipS) (seqS (asgS [] (tupV (consA (dLit (.int 0)) (consA (dLit .none) nilA))) (tupG 2 (consG (nameG 7) (consG (nameG 8) nilG)))) (seqS (forS [1] (anyS (dB (dVar 1))) (nameG 5) (seqS (ifS [] (orV (un1 (isC false .none) (dVarB 8)) (bin2 geD (dB (bin2 subD (dVarB 5) (dVarB 8))) (dVarB 2))) (seqS (par2S 7 8 [] [5] (.own false) .no (bin2 addD (dVarB 7) (dB (dLit (.int 1)))) (dVar 5)) skipS) skipS) skipS)) (seqS (retS [1, 2] (andV (bin2 eqD (dB (call1 lenD (consB (dVarB 3) nilB))) (dVarB 7)) (orV (bin2 eqD (dVarB 3) (dB (lstV nilA))) (un1 (isC false (.bool false)) (dB (callV D_is_patched (consA (dVar 1) (consA (dVar 2) (consA (call1 tupD (consB (dB (slcV (dVarB 3) (someO (dB (dLit (.int 1)))) noO)) nilB)) nilA))))))))) skipS)))))))))
section
variable {P : Program} {w : World} {K : Frag} {mg : Str → Option Value} {base : Heap}
theorem ok_is_number {fa : Addr} {fd : FuncData} (F : Fun K "is_number" "is_number" s_is_number fa fd) (m_isinstance : mg "isinstance" = none) (m_bool : mg "bool" = none) (m_int : mg "int" = none) : FnOk P w K mg base CX0 1 fa fd ["thing"] (spF K D_is_number 1) :=
  ok_fn F sc_is_number fun cdv A outer s H E hr => by
    have nd := (sc_is_number).nd
    exact ((ESs_cons (ES_ret (EX_and (isi m_isinstance m_int boot_int (bv 0)) (EX_one (EX_not (isi m_isinstance m_bool boot_bool (bv 0)))))) ESs_nil))
theorem ok_is_ascending {fa : Addr} {fd : FuncData} (F : Fun K "is_ascending" "is_ascending" s_is_ascending fa fd) (m_range : mg "range" = none) (m_len : mg "len" = none) (m_all : mg "all" = none) : FnOk P w K mg base CX0 1 fa fd ["things"] (spF K D_is_ascending 1) :=
  ok_fn F sc_is_ascending fun cdv A outer s H E hr => by
    have nd := (sc_is_ascending).nd
    exact ((ESs_cons (ES_ret (cb (c_all rfl) m_all boot_all (b2 ((lc [("k", 1)] nd (s_r1 m_range ((EX_bin o_sub ((cb c_len m_len boot_len (b2 (bv 0) EAB_nil))).b (EX_int).b)).b) (fun _ _ _ _ _ => (tn nd 1)) (fun _ _ _ _ _ => ETs_nil) (fun _ _ _ _ _ => (cm (o_lt hr.units) ((ix hr (bv 0) (bv 1))).b ((ix hr (bv 0) ((EX_bin o_add (bv 1) (EX_int).b)).b)).b)) (nameG_ok 1))).b EAB_nil))) ESs_nil))
theorem ok_is_number_set {fa : Addr} {fd : FuncData} (F : Fun K "is_number_set" "is_number_set" s_is_number_set fa fd) (m_all : mg "all" = none) (m_isinstance : mg "isinstance" = none) (m_tuple : mg "tuple" = none) (G_is_ascending : Fk P w K mg base 1 "is_ascending" ["things"] D_is_ascending) (G_is_number : Fk P w K mg base 1 "is_number" ["thing"] D_is_number) : FnOk P w K mg base CX0 2 fa fd ["thing"] (spF K D_is_number_set 1) :=
  ok_fn F sc_is_number_set fun cdv A outer s H E hr => by
    have nd := (sc_is_number_set).nd
    exact ((ESs_cons (ES_ret (EX_and (isi m_isinstance m_tuple boot_tuple (bv 0)) (EX_and (cb (c_all rfl) m_all boot_all (b2 ((lc [("one", 1)] nd (s_any (bv 0)) (fun _ _ _ _ _ => (tn nd 1)) (fun _ _ _ _ _ => ETs_nil) (fun _ _ _ _ _ => (cf G_is_number hr (a2 (xv 1) EA_nil) (consA_len nilA_len))) (nameG_ok 1))).b EAB_nil)) (EX_one (cf G_is_ascending hr (a2 (xv 0) EA_nil) (consA_len nilA_len)))))) ESs_nil))
theorem ok_patch_row {fa : Addr} {fd : FuncData} (F : Fun K "patch_row" "patch_row" s_patch_row fa fd) (m_tuple : mg "tuple" = none) : FnOk P w K mg base CX0 1 fa fd ["seams", "wide"] (spF K D_patch_row 2) :=
  ok_fn F sc_patch_row fun cdv A outer s H E hr => by
    have nd := (sc_patch_row).nd
    exact ((ESs_cons (st nd 2 (EX_lst EA_nil))
    (ESs_cons (fo (s_fz (xv 0)) (tn nd 3) (nameG_ok 3) (nameG_fr 3)
      (ESs_cons (ES_if (ET_pw (EW_or (tcm (o_eq hr.units) (bv 2) ((EX_lst EA_nil)).b) (EW_or1 (tcm (o_ge hr.units) (bv 3) ((EX_bin o_add ((ix hr (bv 2) ((EX_un o_neg (EX_int).b)).b)).b (bv 1))).b))))
        (ESs_cons (ap (ev 2) (xv 3)) ESs_nil)
        ESs_nil) ESs_nil))
    (ESs_cons (ES_ret (ct c_tuple m_tuple boot_tuple (b2 (bv 2) EAB_nil))) ESs_nil))))
theorem ok_is_patched {fa : Addr} {fd : FuncData} (F : Fun K "is_patched" "is_patched" s_is_patched fa fd) (m_any : mg "any" = none) (m_all : mg "all" = none) (G_is_number_set : Fk P w K mg base 2 "is_number_set" ["thing"] D_is_number_set) : FnOk P w K mg base CX0 3 fa fd ["seams", "wide", "begins"] (spF K D_is_patched 3) :=
  ok_fn F sc_is_patched fun cdv A outer s H E hr => by
    have nd := (sc_is_patched).nd
    exact ((ESs_cons (ES_if (ET_not (tv (cf G_is_number_set hr (a2 (xv 2) EA_nil) (consA_len nilA_len))))
      (ESs_cons (ES_ret EX_bool) ESs_nil)
      ESs_nil)
    (ESs_cons (ES_ret (cb (c_all rfl) m_all boot_all (b2 ((lc [("seam", 3)] nd (s_any (bv 0)) (fun _ _ _ _ _ => (tn nd 3)) (fun _ _ _ _ _ => ETs_nil) (fun _ _ _ _ _ => (cb (c_any rfl) m_any boot_any (b2 ((lc [("begin", 4)] nd (s_any (bv 2)) (fun _ _ _ _ _ => (tn nd 4)) (fun _ _ _ _ _ => ETs_nil) (fun _ _ _ _ _ => (ch (o_le hr.units) (o_lt hr.units) (bv 4) (bv 3) ((EX_bin o_add (bv 4) (bv 1))).b)) (nameG_ok 4))).b EAB_nil))) (nameG_ok 3))).b EAB_nil))) ESs_nil)))
theorem ok_law_draws {fa : Addr} {fd : FuncData} (F : Fun K "_law_draws" "_law_draws" s__law_draws fa fd) (m_range : mg "range" = none) (m_len : mg "len" = none) (m_int : mg "int" = none) (m_abs : mg "abs" = none) : FnOk P w K mg base CX0 1 fa fd ["script", "many"] (spDraws K) :=
  ok_drawsFn (k := 0) (body := WH.B_law_draws) F sc__law_draws (fun cdv A outer s H E hr => by
    have nd := (sc__law_draws).nd
    exact ((ESs_cons (st nd 2 (EX_lst EA_nil))
    (ESs_cons (st nd 3 EX_int)
    (ESs_cons (fo (s_r1 m_range ((lenK 0 m_len (ev 0))).b) (tn nd 4) (nameG_ok 4) (nameG_fr 4)
      (ESs_cons (st nd 5 (cb c_abs m_abs boot_abs (b2 ((ct c_int m_int boot_int (b2 ((ixK 0 (ev 0) (bv 4))).b EAB_nil))).b EAB_nil)))
      (ESs_cons (st nd 3 (EX_bin o_mod ((ct c_int m_int boot_int (b2 ((EX_bin o_add ((EX_bin o_add ((EX_bin o_mul (bv 3) (EX_int).b)).b ((EX_bin o_mod (bv 5) (EX_int).b)).b)).b (bv 4))).b EAB_nil))).b (EX_int).b))
      (ESs_cons (st nd 6 EX_int)
      (ESs_cons (ES_if (tcm (o_ge hr.units) (bv 5) ((EX_bin o_pow (EX_int).b (EX_int).b)).b)
        (ESs_cons (st nd 6 (xv 5)) ESs_nil)
        (ESs_cons (ap (ev 2) (EX_bin o_mod ((ct c_int m_int boot_int (b2 (bv 5) EAB_nil))).b (EX_int).b))
        (ESs_cons (ap (ev 2) (EX_bin o_mod ((EX_bin o_mod ((ct c_int m_int boot_int (b2 ((EX_bin o_add ((EX_bin o_mul (bv 3) (EX_int).b)).b (EX_int).b)).b EAB_nil))).b (EX_int).b)).b (EX_int).b)) ESs_nil)))
      (ESs_cons (fo (s_r1 m_range (EX_int).b) (tn nd 7) (nameG_ok 7) (nameG_fr 7)
        (ESs_cons (ES_if (tcm (o_gt hr.units) (bv 6) (EX_int).b)
          (ESs_cons (ap (ev 2) (EX_bin o_mod ((ct c_int m_int boot_int (b2 (bv 6) EAB_nil))).b (EX_int).b))
          (ESs_cons (st nd 6 (EX_bin o_fdiv (bv 6) (EX_int).b)) ESs_nil))
          ESs_nil) ESs_nil)) ESs_nil))))))
    (ESs_cons (fo (s_r1 m_range (bv 1)) (tn nd 4) (nameG_ok 4) (nameG_fr 4)
      (ESs_cons (st nd 3 (EX_bin o_mod ((ct c_int m_int boot_int (b2 ((EX_bin o_add ((EX_bin o_add ((EX_bin o_mul (bv 3) (EX_int).b)).b (bv 4))).b (EX_int).b)).b EAB_nil))).b (EX_int).b))
      (ESs_cons (ap (ev 2) (EX_bin o_mod ((ct c_int m_int boot_int (b2 (bv 3) EAB_nil))).b (EX_int).b)) ESs_nil)))
    (ESs_cons (ES_ret ((EX_slice (bv 2) EO_no (EO_some (bv 1)))).fz) ESs_nil))))))) draws_ok
theorem ok_law_holds {fa : Addr} {fd : FuncData} (F : Fun K "_law_holds" "_law_holds" s__law_holds fa fd) (m_range : mg "range" = none) (m_sorted : mg "sorted" = none) (m_set : mg "set" = none) (m_tuple : mg "tuple" = none) (m_len : mg "len" = none) (NX : NextK P w K mg base) (G_patch_row : Fk P w K mg base 1 "patch_row" ["seams", "wide"] D_patch_row) (G_is_patched : Fk P w K mg base 3 "is_patched" ["seams", "wide", "begins"] D_is_patched) (hl : ∀ (o : Nat → Int) (n : Nat), ∃ n2, B_law_holds o (some .ww :: List.replicate 9 none) n = some (.rt (.bool true), n2)) : FnOk P w K mg base CX0 5 fa fd ["w"] (spHolds K) :=
  ok_holdsFn F sc__law_holds (fun c cdv A outer s H E hr => by
    have nd := (sc__law_holds).nd
    exact ((ESs_cons (st nd 1 (ct c_tuple m_tuple boot_tuple (b2 ((sset m_sorted m_set ((lc [("k", 9)] nd (s_r1 m_range ((dr NX hr (ev 0) EX_int)).b) (fun _ _ _ _ _ => (tn nd 9)) (fun _ _ _ _ _ => ETs_nil) (fun _ _ _ _ _ => (dr NX hr (ev 0) EX_int)) (nameG_ok 9))).b)).b EAB_nil)))
    (ESs_cons (st nd 2 (EX_bin o_add (EX_int).b ((dr NX hr (ev 0) EX_int)).b))
    (ESs_cons (p2 nd 3 4 (EX_lst EA_nil) EX_none)
    (ESs_cons (fo (s_fz (xv 1)) (tn nd 5) (nameG_ok 5) (nameG_fr 5)
      (ESs_cons (ES_if (ET_pw (EW_or (ET_isN (.inl ⟨rfl, rfl⟩) (bv 4)) (EW_or1 (tcm (o_ge hr.units) (bv 5) ((EX_bin o_add (bv 4) (bv 2))).b))))
        (ESs_cons (st nd 4 (xv 5))
        (ESs_cons (ap (ev 3) (xv 4)) ESs_nil))
        ESs_nil) ESs_nil))
    (ESs_cons (st nd 6 (cf G_patch_row hr (a2 (xv 1) (a2 (xv 2) EA_nil)) (consA_len (consA_len nilA_len))))
    (ESs_cons (ES_if (ET_pw (EW_or (tcm (o_ne hr.units) ((ct c_tuple m_tuple boot_tuple (b2 (bv 6) EAB_nil))).b ((ct c_tuple m_tuple boot_tuple (b2 (bv 3) EAB_nil))).b) (EW_or1 (ET_isB (.inr ⟨rfl, rfl⟩) ((cf G_is_patched hr (a2 (xv 1) (a2 (xv 2) (a2 (xv 6) EA_nil))) (consA_len (consA_len (consA_len nilA_len))))).b))))
      (ESs_cons (ES_ret EX_bool) ESs_nil)
      ESs_nil)
    (ESs_cons (ag (EX_tup (a2 EX_int (a2 EX_none EA_nil))) (tt (t2 (tn nd 7) (t2 (tn nd 8) EGs_nil))) (tupG_ok (consG_ok (nameG_ok 7) (consG_ok (nameG_ok 8) nilG_ok))) (tupG_fr (consG_fr (nameG_fr 7) (consG_fr (nameG_fr 8) nilG_fr nilG_ok) (consG_ok (nameG_ok 8) nilG_ok))))
    (ESs_cons (fo (s_fz (xv 1)) (tn nd 5) (nameG_ok 5) (nameG_fr 5)
      (ESs_cons (ES_if (ET_pw (EW_or (ET_isN (.inl ⟨rfl, rfl⟩) (bv 8)) (EW_or1 (tcm (o_ge hr.units) ((EX_bin o_sub (bv 5) (bv 8))).b (bv 2)))))
        (ESs_cons (p2 nd 7 8 (EX_bin o_add (bv 7) (EX_int).b) (xv 5)) ESs_nil)
        ESs_nil) ESs_nil))
    (ESs_cons (ES_ret (EX_and (cm (o_eq hr.units) ((cb c_len m_len boot_len (b2 (bv 3) EAB_nil))).b (bv 7)) (EX_one (EX_or (cm (o_eq hr.units) (bv 3) ((EX_lst EA_nil)).b) (EX_one (EX_isB (.inl ⟨rfl, rfl⟩) ((cf G_is_patched hr (a2 (xv 1) (a2 (xv 2) (a2 (ct c_tuple m_tuple boot_tuple (b2 ((EX_slice (bv 3) (EO_some (EX_int).b) EO_no)).b EAB_nil)) EA_nil))) (consA_len (consA_len (consA_len nilA_len))))).b)))))) ESs_nil))))))))))) hl
theorem ok_law_next {fa : Addr} {fd : FuncData} (F : Fun K "_law_next" "_law_next" s__law_next fa fd) (m_len : mg "len" = none) (m_int : mg "int" = none) : FnOk P w K mg base CX0 1 fa fd ["w", "many"] (spNext K) := by
  refine F.ok sc__law_next (fun vs H Q E h => ?_) fun cdv A outer s H vs Q E hr h => ?_
  · obtain ⟨a, m, _, _, _, rfl, _⟩ := h; rfl
  obtain ⟨a, m, F0, o, n, rfl, hm, sb, hw, q⟩ := h
  obtain ⟨f, la, ds, hH, hl, hz, ho⟩ := hw
  have hu : (A.deeper (envOfC "_law_next" (defScope s__law_next) s.heap.objs.size fa cdv)).units + 1 < cLine := by
    have := hr.units
    omega
  refine ⟨_, pss_cons (ps_daug hu (pv 0) pe_str pe_int in_add (by intros; rfl)) (pss_cons (ps_if (pt_cmpR op_gt (pe_ix (ix_dict hu) (pv 0) pe_str (fun _ _ => rfl)) (pe_callB call_len_seq (by rfl) m_len boot_len (pa_cons (pe_ix (ix_dict hu) (pv 0) pe_str (fun _ _ => rfl)) pa_nil)) (nomark _)) (pss_one (ps_ret pe_int)) pss_nil)
    (pss_one (ps_ret (pe_op op_mod (pe_callTy call_int1 (by rfl) m_int boot_int (pa_cons (pe_ix ix_list (pe_ix (ix_dict hu) (pv 0) pe_str (fun _ _ => rfl)) (pe_op op_sub (pe_ix (ix_dict hu) (pv 0) pe_str (fun _ _ => rfl)) pe_int) (fun _ _ => rfl)) pa_nil)) (pv 1))))), ?_⟩
  obtain ⟨st, hw2⟩ := next_end sb f hH hl hz ho
  have key := q _ st hw2
  have hl2 : SqL K (upd H a (.dK [(.inr "draws", .ref la), (.inr "at", .int ((n : Int) + 1))])) la (ds.map V.int) := .inl (st.ok _ _ hl).rd
  have g1 : DGet H a (.str "at") (some (.int n)) := DGet.k (k := .inr "at") hH
  have g2 : DGet (upd H a (.dK [(.inr "draws", .ref la), (.inr "at", .int ((n : Int) + 1))])) a (.str "at") (some (.int ((n : Int) + 1))) := DGet.k (k := .inr "at") upd_same
  have g3 : DGet (upd H a (.dK [(.inr "draws", .ref la), (.inr "at", .int ((n : Int) + 1))])) a (.str "draws") (some (.ref la)) := DGet.k (k := .inr "draws") upd_same
  refine ⟨.ref a, rfl, a, _, rfl, g1, (n : Int), 1, rfl, rfl, _, DPut.k (k := .inr "at") hH (show 2 < sizeLine by decide), ?_⟩
  refine ⟨.ref a, rfl, a, _, rfl, g2, .ref a, rfl, a, _, rfl, g3, la, ds.map V.int, rfl, .inl hl2, ?_⟩
  refine ⟨(n : Int) + 1, _, rfl, rfl, _, rfl, ite2 (fun e => ?_) (fun e => ?_)⟩
  · have e1 := of_decide_eq_true e
    rw [List.length_map] at e1
    have : o n = 0 := by rw [ho, List.getElem?_eq_none (by omega)] <;> rfl
    rw [this, Int.zero_emod] at key
    exact key
  · rw [List.length_map] at e
    have hn : n < ds.length := by
      rcases Nat.lt_or_ge n ds.length with z | z
      · exact z
      · exact absurd (decide_eq_true (by omega)) e
    have hd : ds[n]? = some (o n) := by rw [ho, List.getElem?_eq_getElem hn] <;> rfl
    refine ⟨.ref a, rfl, a, _, rfl, g3, .ref a, rfl, a, _, rfl, g2, (n : Int) + 1, 1, rfl, rfl, la, ds.map V.int, (n : Int) + 1 - 1, .int (o n), rfl, rfl, hl2, ?_, ?_⟩
    · rw [Int.add_sub_cancel]
      exact atI_nat (by rw [List.getElem?_map, hd] <;> rfl)
    · exact .inl ⟨o n, rfl, _, rfl, o n, m, rfl, rfl, hm, key⟩
def spLaw (K : Frag) : Sp := fun vs H Q _ => ∃ (a : Addr) (ns : List Int), vs = [.ref a] ∧ KSq K H a (ns.map V.int) ∧ ns.length ≤ 63 ∧ ∀ H', Q (.bl true) H'
theorem ok_law {k : Nat} {f f1 f2 : Addr} {fd fd1 fd2 : FuncData} (F : Fun K "law" "law" s_law f fd) (D1 : FnOk P w K mg base CX0 1 f1 fd1 ["script", "many"] (spDraws K)) (g1 : mg "_law_draws" = some (.ref f1)) (kp1 : PySem.W.keepIn K (.ref f1) = true) (b1 : Binds K fd1 ["script", "many"] [])
    (D2 : FnOk P w K mg base CX0 (k + 1) f2 fd2 ["w"] (spHolds K)) (g2 : mg "_law_holds" = some (.ref f2)) (kp2 : PySem.W.keepIn K (.ref f2) = true) (b2 : Binds K fd2 ["w"] []) (m_range : mg "range" = none) : FnOk P w K mg base CX0 (k + 2) f fd ["script"] (spLaw K) := by
  refine F.ok sc_law (fun vs H Q E h => ?_) fun cdv A outer s H vs Q E hr h => ?_
  · obtain ⟨a, _, rfl, _⟩ := h; rfl
  obtain ⟨a, ns, rfl, hq, h63, q⟩ := h
  refine ⟨_, pss_cons (ps_set (i := 1) sc_law.nd rfl (.inl rfl) (pe_disp (pps_cons pe_str (pe_call (D1.mono (Nat.succ_le_succ (Nat.zero_le k))) hr (by rfl) g1 kp1 b1 .nil pass0 (pa_cons (pv 0) (pa_cons pe_int pa_nil))) (pps_cons pe_str pe_int pps_nil)) rfl rfl (by decide) (by decide)))
    (pss_cons (ps_for PassesOwn.never rfl (pi_range1 (by rfl) m_range (pa_cons pe_int pa_nil)) (pg_name (i := 2) sc_law.nd rfl (.inl rfl)) (pss_one (ps_if (pt_not (pt_val (pe_call D2 hr (by rfl) g2 kp2 b2 .nil pass0 (pa_cons (pv 1) pa_nil)))) (pss_one (ps_ret pe_bl)) pss_nil)))
    (pss_one (ps_ret pe_bl))), ?_⟩
  intro p hp
  have sb0 : Sb (fun _ => none) (upd H p (.dK [])) := fun c u r => by
    rcases r with r | ⟨_, r, _⟩ <;> cases r
  have hq1 : KSq K (upd H p (.dK [])) a (ns.map V.int) := hq.imp (fun ⟨ob, e⟩ => ⟨ob, by rw [upd_ne (ne_of_none e hp)]; exact e⟩) id
  refine ⟨.ref a, rfl, a, ns, fun _ => none, rfl, sb0, hq1, h63, fun v F1 H1 ds st hds r => ?_⟩
  cases r with
  | @lst la xs _ r1 r2 =>
  have hp1 : H1 p = some (.dK []) := st.kp p _ (fun z => z) upd_same
  have fp : F1 p = none := st.fnone rfl (Fre.not (o := .dK []) (.inl upd_same) trivial)
  have sb1 : Sb F1 (upd H1 p (.dK [(.inr "draws", .ref la), (.inr "at", .int 0)])) := fun c u r => by
    have z : c ≠ p := fun z => Rd.there r (z ▸ fp)
    rcases st.ok c u r with r | ⟨ob, r, nt⟩
    · exact .inl (by rw [upd_ne z]; exact r)
    · exact .inr ⟨ob, by rw [upd_ne z]; exact r, nt⟩
  have e1 : xs = ds.map V.int := r2.ints
  subst e1
  have w0 : WOk K (fun m => (ds[m]?).getD 0) F1 (upd H1 p (.dK [(.inr "draws", .ref la), (.inr "at", .int 0)])) 0 (some p) := ⟨fp, la, ds, by rw [upd_same] <;> rfl, r1, hds, fun _ => rfl⟩
  refine ⟨hp1, [(.inr "draws", .ref la), (.inr "at", .int 0)], rfl, (show 2 ≤ 15 by decide), ?_⟩
  refine ⟨4, rfl, by decide, by decide, fun i m σ H => m = 4 - i ∧ i ≤ 4 ∧ ∃ x2 F n, σ = [some (.ref a), some (.ref p), x2] ∧ Sb F H ∧ WOk K (fun m => (ds[m]?).getD 0) F H n (some p), ⟨4, rfl, by decide, none, F1, 0, rfl, sb1, w0⟩, ?_⟩
  rintro i m σ H2 ⟨rfl, hi, x2, F2, n, rfl, sb2, w2⟩
  by_cases h4 : i < 4
  · refine .inr ⟨h4, fun σ' H' => ∃ x2 F n, σ' = [some (.ref a), some (.ref p), x2] ∧ Sb F H' ∧ WOk K (fun m => (ds[m]?).getD 0) F H' n (some p), fun σ' H' hN => ⟨4 - (i + 1), by omega, rfl, h4, hN⟩, fun x H3 hy => ?_⟩
    obtain ⟨rfl, rfl⟩ := hy
    exact ⟨.ref p, rfl, p, F2, _, n, rfl, sb2, w2, fun F3 H3 n3 st3 w3 => ⟨true, rfl, iteF ⟨_, F3, n3, rfl, st3.ok, w3⟩⟩⟩
  · exact .inl ⟨(show 4 ≤ i by omega), q _⟩
end
theorem isnum (i : Int) : D_is_number [.int i] = some (.bool true) := rfl
theorem atI_k {ns : List Int} {k : Nat} (h : k < ns.length) : atI (ns.map PyData.int) (k : Int) = some (.int ns[k]) := atI_map _ (atI_nat (List.getElem?_eq_getElem h))
theorem asc (ns : List Int) (h : ns.Pairwise (· < ·)) (hl : ns.length ≤ 1000) : D_is_ascending [.tuple (ns.map .int)] = some (.bool true) := by
  have key : lcV (rng1S (dB (bin2 subD (dB (call1 lenD (consB (dVarB 0) nilB))) (dB (dLit (.int 1)))))) (nameG 1) (dLit (.bool true)) (bin2 ltD (dB (bin2S ixD (dVarB 0) (dVarB 1))) (dB (bin2S ixD (dVarB 0) (dB (bin2 addD (dVarB 1) (dB (dLit (.int 1)))))))) [1] [some (.fr (.tuple (ns.map .int))), none] 0 = some (.list ((List.replicate (ns.length - 1) true).map .bool), 0) := by
    refine lcV_at (ds := rangeD 0 (((ns.length : Int) - 1).toNat)) (m := 0) (rng1_at ?_ (by omega) (by omega)) ?_ ?_
    · simp only [setS, par2S, par3S, asgS, retS, seqS, skipS, ifS, forS, appS, extS, augD, dputS, brkS, contS, fzE, fz1, eget, eset, mkS, dLit, dVar, dVarB, dB, bin2, bin2S, bin2R, un1, consA, nilA, consB, nilB, tupV, lstV, call1, callV, toDs, Sl.toD, rng1S, rng2S, lenKV, ixKV, nameG, tupG, consG, nilG, noO, someO, slcV, andV, orV, notV, iteV, chV, isC, anyS, anyN, itemsS, itemsN, drawV, isiV, addD, subD, modD, fdivD, absD, WH.intD, ltD, leD, gtD, geD, negD, mul_r, Option.bind_some, Option.map_some, Option.bind_none, Option.map_none, Int.reduceLT, Int.reduceLE, decide_true, decide_false, if_true, if_false, Bool.and_self, Bool.and_true, Bool.true_and, List.length_cons, List.length_nil, reduceCtorEq, lenD, List.length_map]
    · rw [rangeD_length]; show _ ≤ 1000000; omega
    · have e : ((ns.length : Int) - 1).toNat = ns.length - 1 := by omega
      rw [e]
      unfold rangeD
      have := lcGo_all (g := nameG 1) (e := bin2 ltD (dB (bin2S ixD (dVarB 0) (dVarB 1))) (dB (bin2S ixD (dVarB 0) (dB (bin2 addD (dVarB 1) (dB (dLit (.int 1)))))))) (ρw := wipeE [some (.fr (.tuple (ns.map .int))), none] [1]) (enc := fun k : Nat => PyData.int (0 + (k : Int))) (h := fun _ => PyData.bool true) (n := 0) (l := List.range (ns.length - 1)) fun k hk => by
        have hk' : k < ns.length - 1 := List.mem_range.mp hk
        refine ⟨_, rfl, ?_⟩
        have h1 := atI_k (ns := ns) (k := k) (by omega)
        have h2 : atI (ns.map PyData.int) ((k : Int) + 1) = some (.int (ns[k + 1]'(by omega))) := atI_k (ns := ns) (k := k + 1) (by omega)
        have h3 : ns[k]'(by omega) < ns[k + 1]'(by omega) := List.pairwise_iff_getElem.mp h k (k + 1) (by omega) (by omega) (by omega)
        simp only [setS, par2S, par3S, asgS, retS, seqS, skipS, ifS, forS, appS, extS, augD, dputS, brkS, contS, fzE, fz1, eget, eset, mkS, dLit, dVar, dVarB, dB, bin2, bin2S, bin2R, un1, consA, nilA, consB, nilB, tupV, lstV, call1, callV, toDs, Sl.toD, rng1S, rng2S, lenKV, ixKV, nameG, tupG, consG, nilG, noO, someO, slcV, andV, orV, notV, iteV, chV, isC, anyS, anyN, itemsS, itemsN, drawV, isiV, addD, subD, modD, fdivD, absD, WH.intD, ltD, leD, gtD, geD, negD, mul_r, Option.bind_some, Option.map_some, Option.bind_none, Option.map_none, Int.reduceLT, Int.reduceLE, decide_true, decide_false, if_true, if_false, Bool.and_self, Bool.and_true, Bool.true_and, List.length_cons, List.length_nil, reduceCtorEq, wipeE, ixD, Int.zero_add, h1, h2, h3]
      rw [this, List.map_const', List.length_range, List.map_replicate]
  have b : (List.replicate (ns.length - 1) true).all id = true := by simp
  refine fnD_rt (env := [some (.fr (.tuple (ns.map .int))), none]) (m := 0) rfl ((seqS_rt (retS_at ?_)))
  simp only [call1, consB, dB, nilB, fzE, key, Option.bind_some, Option.map_some, toDs, Sl.toD, allD_map, b]
theorem numset (ns : List Int) (h : ns.Pairwise (· < ·)) (hl : ns.length ≤ 1000) : D_is_number_set [.tuple (ns.map .int)] = some (.bool true) := by
  have key : lcV (anyS (dVarB 0)) (nameG 1) (dLit (.bool true)) (callV D_is_number (consA (dVar 1) nilA)) [1] [some (.fr (.tuple (ns.map .int))), none] 0 = some (.list ((ns.map fun _ => true).map .bool), 0) := by
    refine lcV_at (ds := ns.map .int) (m := 0) rfl (by rw [List.length_map]; show _ ≤ 1000000; omega) ?_
    rw [lcGo_all (h := fun _ => PyData.bool true) fun a ha => ⟨_, rfl, ?_⟩]
    · rw [List.map_map] <;> rfl
    · simp only [setS, par2S, par3S, asgS, retS, seqS, skipS, ifS, forS, appS, extS, augD, dputS, brkS, contS, fzE, fz1, eget, eset, mkS, dLit, dVar, dVarB, dB, bin2, bin2S, bin2R, un1, consA, nilA, consB, nilB, tupV, lstV, call1, callV, toDs, Sl.toD, rng1S, rng2S, lenKV, ixKV, nameG, tupG, consG, nilG, noO, someO, slcV, andV, orV, notV, iteV, chV, isC, anyS, anyN, itemsS, itemsN, drawV, isiV, addD, subD, modD, fdivD, absD, WH.intD, ltD, leD, gtD, geD, negD, mul_r, Option.bind_some, Option.map_some, Option.bind_none, Option.map_none, Int.reduceLT, Int.reduceLE, decide_true, decide_false, if_true, if_false, Bool.and_self, Bool.and_true, Bool.true_and, List.length_cons, List.length_nil, reduceCtorEq, wipeE, isnum]
  have b : (ns.map fun _ => true).all id = true := by simp
  refine fnD_rt (env := [some (.fr (.tuple (ns.map .int))), none]) (m := 0) rfl ((seqS_rt (retS_at ?_)))
  simp only [andV, isiV, un1, call1, consB, dB, nilB, fzE, fz1, eget, dVarB, dVar, consA, nilA, callV, key, Option.bind_some, Option.map_some, toDs, Sl.toD, allD_map, isiD, tyD, asc ns h hl, b, isiB, String.reduceBEq, Bool.true_or]
/-! the plain law: patches begun at the first open seam -/
def stp (w : Int) (acc : List Int) (s : Int) : List Int := match acc.getLast? with
  | none => [s]
  | some b => if b + w ≤ s then acc ++ [s] else acc
def gr (w : Int) (l : List Int) : List Int := l.foldl (stp w) []
structure Inv (w : Int) (p acc : List Int) : Prop where
  asc : acc.Pairwise (· < ·)
  mem : ∀ b ∈ acc, b ∈ p
  cov : ∀ s ∈ p, ∃ b ∈ acc, b ≤ s ∧ s < b + w
  hd : acc.head? = p.head?
  len : acc.length ≤ p.length
theorem Inv.step {w s : Int} {p acc : List Int} (hw : 1 ≤ w) (I : Inv w p acc) (h : ∀ x ∈ p, x < s) : Inv w (p ++ [s]) (stp w acc s) := by
  unfold stp
  rcases List.eq_nil_or_concat acc with e | ⟨l, b, e⟩
  · subst e
    have hp : p = [] := by
      have := I.hd
      cases p with
      | nil => rfl
      | cons x r => simp at this
    subst hp
    exact ⟨by simp, by simp, fun x hx => ⟨s, by simp, by simp at hx; omega⟩, rfl, by simp⟩
  · rw [List.concat_eq_append] at e
    subst e
    rw [List.getLast?_concat]
    have hb : b ∈ p := I.mem b (by simp)
    have hbs := h b hb
    have hne : (l ++ [b]).head? = p.head? := I.hd
    have hp : (p ++ [s]).head? = p.head? := by
      cases p with
      | nil => simp at hb
      | cons x r => rfl
    simp only
    split
    · refine ⟨?_, fun x hx => ?_, fun x hx => ?_, ?_, ?_⟩
      · refine List.pairwise_append.mpr ⟨I.asc, by simp, fun x hx y hy => ?_⟩
        have : y = s := by simpa using hy
        subst this
        exact h x (I.mem x hx)
      · rcases List.mem_append.mp hx with z | z
        · exact List.mem_append_left _ (I.mem x z)
        · exact List.mem_append_right _ z
      · rcases List.mem_append.mp hx with z | z
        · obtain ⟨c, hc, h1⟩ := I.cov x z
          exact ⟨c, List.mem_append_left _ hc, h1⟩
        · have : x = s := by simpa using z
          subst this
          exact ⟨x, by simp, by omega, by omega⟩
      · rw [hp, ← hne]
        cases l <;> rfl
      · have := I.len
        simp only [List.length_append, List.length_singleton] at this ⊢
        omega
    · rename_i hlt
      refine ⟨I.asc, fun x hx => List.mem_append_left _ (I.mem x hx), fun x hx => ?_, by rw [hp]; exact hne, by have := I.len; simp only [List.length_append, List.length_singleton] at this ⊢; omega⟩
      rcases List.mem_append.mp hx with z | z
      · exact I.cov x z
      · have : x = s := by simpa using z
        subst this
        exact ⟨b, by simp, by omega, by omega⟩
theorem inv_fold {w : Int} (hw : 1 ≤ w) : ∀ (r p acc : List Int), Inv w p acc → (p ++ r).Pairwise (· < ·) → Inv w (p ++ r) (r.foldl (stp w) acc)
  | [], p, acc, I, _ => by rw [List.append_nil]; exact I
  | s :: r, p, acc, I, h => by
    rw [List.foldl_cons]
    have h2 : p ++ s :: r = (p ++ [s]) ++ r := by rw [List.append_assoc] <;> rfl
    have h3 := List.pairwise_append.mp h
    have := inv_fold hw r (p ++ [s]) (stp w acc s) (I.step hw fun x hx => h3.2.2 x hx s (by simp)) (by rw [← h2]; exact h)
    rw [h2]
    exact this
theorem inv_gr {w : Int} (hw : 1 ≤ w) {l : List Int} (h : l.Pairwise (· < ·)) : Inv w l (gr w l) := by
  have := inv_fold hw l [] [] ⟨.nil, fun b hb => hb, fun s hs => by simp at hs, rfl, Nat.le_refl _⟩ (by simpa using h)
  simpa [gr] using this
theorem gr_snoc (w : Int) (l : List Int) (s : Int) : gr w (l ++ [s]) = stp w (gr w l) s := by
  unfold gr
  rw [List.foldl_append] <;> rfl
theorem gr_len (w : Int) : ∀ (l : List Int), (gr w l).length ≤ l.length := fun l => by
  have : ∀ (r acc : List Int), (r.foldl (stp w) acc).length ≤ acc.length + r.length := by
    intro r
    induction r with
    | nil => intro acc; simp
    | cons s r ih =>
      intro acc
      rw [List.foldl_cons]
      have h1 := ih (stp w acc s)
      have h2 : (stp w acc s).length ≤ acc.length + 1 := by
        unfold stp
        split
        · simp
        · split
          · simp
          · omega
      rw [List.length_cons]
      omega
  have h := this l []
  simpa [gr] using h
theorem nil_eq : (PyData.list []) = .list (([] : List Int).map .int) := rfl
/-- one turn of patch_row's loop -/
theorem pr_turn (w s : Int) (acc : List Int) (x0 x3 : Option Sl) (n : Nat) (hl : acc.length < 1000) : (seqS (ifS [] (orV (bin2 eqD (dVarB 2) (dB (lstV nilA))) (bin2 geD (dVarB 3) (dB (bin2 addD (dB (bin2S ixD (dVarB 2) (dB (un1 negD (dB (dLit (.int 1))))))) (dVarB 1))))) (seqS (appS 2 [3] (dVar 3)) skipS) skipS) skipS)
    [x0, some (.fr (.int w)), some (.ol (acc.map .int)), some (.fr (.int s))] n = some (.nx [x0, some (.fr (.int w)), some (.ol ((stp w acc s).map .int)), some (.fr (.int s))], n) := by
  have h0 : (acc.map PyData.int).length < LIM := by rw [List.length_map]; show _ < 1000000; omega
  rcases List.eq_nil_or_concat acc with e | ⟨l, b, e⟩
  · subst e
    have h1 : (0 : Nat) < LIM := by decide
    have h2 := eqD_ints [] []
    simp only [List.map_nil] at h2
    simp only [setS, par2S, par3S, asgS, retS, seqS, skipS, ifS, forS, appS, extS, augD, dputS, brkS, contS, fzE, fz1, eget, eset, mkS, dLit, dVar, dVarB, dB, bin2, bin2S, bin2R, un1, consA, nilA, consB, nilB, tupV, lstV, call1, callV, toDs, Sl.toD, rng1S, rng2S, lenKV, ixKV, nameG, tupG, consG, nilG, noO, someO, slcV, andV, orV, notV, iteV, chV, isC, anyS, anyN, itemsS, itemsN, drawV, isiV, addD, subD, modD, fdivD, absD, WH.intD, ltD, leD, gtD, geD, negD, mul_r, Option.bind_some, Option.map_some, Option.bind_none, Option.map_none, Int.reduceLT, Int.reduceLE, decide_true, decide_false, if_true, if_false, Bool.and_self, Bool.and_true, Bool.true_and, List.length_cons, List.length_nil, reduceCtorEq, List.map_nil, Nat.zero_le, h2, stp, List.getLast?_nil, h1, List.nil_append, List.map_cons]
  · rw [List.concat_eq_append] at e
    subst e
    have h2 := eqD_ints (l ++ [b]) []
    simp only [List.map_nil] at h2
    have h3 : decide (l ++ [b] = []) = false := by simp
    have h4 : atI ((l ++ [b]).map PyData.int) (-1) = some (.int b) := by rw [List.map_append]; exact atI_last _ _
    by_cases hc : b + w ≤ s
    · simp only [setS, par2S, par3S, asgS, retS, seqS, skipS, ifS, forS, appS, extS, augD, dputS, brkS, contS, fzE, fz1, eget, eset, mkS, dLit, dVar, dVarB, dB, bin2, bin2S, bin2R, un1, consA, nilA, consB, nilB, tupV, lstV, call1, callV, toDs, Sl.toD, rng1S, rng2S, lenKV, ixKV, nameG, tupG, consG, nilG, noO, someO, slcV, andV, orV, notV, iteV, chV, isC, anyS, anyN, itemsS, itemsN, drawV, isiV, addD, subD, modD, fdivD, absD, WH.intD, ltD, leD, gtD, geD, negD, mul_r, Option.bind_some, Option.map_some, Option.bind_none, Option.map_none, Int.reduceLT, Int.reduceLE, decide_true, decide_false, if_true, if_false, Bool.and_self, Bool.and_true, Bool.true_and, List.length_cons, List.length_nil, reduceCtorEq, Nat.zero_le, h2, h3, ixD, h4, stp, List.getLast?_concat, hc, h0, snoc_map]
    · simp only [setS, par2S, par3S, asgS, retS, seqS, skipS, ifS, forS, appS, extS, augD, dputS, brkS, contS, fzE, fz1, eget, eset, mkS, dLit, dVar, dVarB, dB, bin2, bin2S, bin2R, un1, consA, nilA, consB, nilB, tupV, lstV, call1, callV, toDs, Sl.toD, rng1S, rng2S, lenKV, ixKV, nameG, tupG, consG, nilG, noO, someO, slcV, andV, orV, notV, iteV, chV, isC, anyS, anyN, itemsS, itemsN, drawV, isiV, addD, subD, modD, fdivD, absD, WH.intD, ltD, leD, gtD, geD, negD, mul_r, Option.bind_some, Option.map_some, Option.bind_none, Option.map_none, Int.reduceLT, Int.reduceLE, decide_true, decide_false, if_true, if_false, Bool.and_self, Bool.and_true, Bool.true_and, List.length_cons, List.length_nil, reduceCtorEq, Nat.zero_le, h2, h3, ixD, h4, stp, List.getLast?_concat, hc]
theorem patch (seams : List Int) (w : Int) (hl : seams.length ≤ 900) : D_patch_row [.tuple (seams.map .int), .int w] = some (.tuple ((gr w seams).map .int)) := by
  obtain ⟨ρ', n', e1, x3, rfl, rfl⟩ := forGo_map (g := nameG 3) (body := (seqS (ifS [] (orV (bin2 eqD (dVarB 2) (dB (lstV nilA))) (bin2 geD (dVarB 3) (dB (bin2 addD (dB (bin2S ixD (dVarB 2) (dB (un1 negD (dB (dLit (.int 1))))))) (dVarB 1))))) (seqS (appS 2 [3] (dVar 3)) skipS) skipS) skipS)) (enc := PyData.int) (all := seams)
    (fun pre ρ n => ∃ x3, ρ = [some (.fr (.tuple (seams.map .int))), some (.fr (.int w)), some (.ol ((gr w pre).map .int)), x3] ∧ n = 0) (by
      rintro pre a post ρ n hall ⟨x3, rfl, rfl⟩
      have hp : pre.length < 1000 := by
        have := congrArg List.length hall
        rw [List.length_append, List.length_cons] at this
        omega
      have := gr_len w pre
      refine ⟨_, _, _, rfl, pr_turn w a (gr w pre) _ none 0 (by omega), some (.fr (.int a)), ?_, rfl⟩
      rw [gr_snoc]) seams [] [some (.fr (.tuple (seams.map .int))), some (.fr (.int w)), some (.ol []), none] 0 (List.nil_append _).symm ⟨none, rfl, rfl⟩
  refine fnD_rt (env := [some (.fr (.tuple (seams.map .int))), some (.fr (.int w)), none, none]) (m := 0) rfl ?_
  unfold B_patch_row
  rw [seqS_nx (setS_at (d := .list []) (m := 0) rfl)]
  refine (seqS_nx ((forS_at (m := 0) (ds := seams.map .int) rfl).trans e1)).trans (seqS_rt (retS_at rfl))
theorem covered (seams begins : List Int) (w : Int) (h : begins.Pairwise (· < ·)) (hl : begins.length ≤ 900) (hs : seams.length ≤ 900) :
    D_is_patched [.tuple (seams.map .int), .int w, .tuple (begins.map .int)] = some (.bool (seams.all fun s => begins.any fun b => decide (b ≤ s) && decide (s < b + w))) := by
  refine fnD_rt (env := [some (.fr (.tuple (seams.map .int))), some (.fr (.int w)), some (.fr (.tuple (begins.map .int))), none, none]) (m := 0) rfl ?_
  unfold B_is_patched
  have e1 : (notV (callV D_is_number_set (consA (dVar 2) nilA))) [some (.fr (.tuple (seams.map .int))), some (.fr (.int w)), some (.fr (.tuple (begins.map .int))), none, none] 0 = some (.bool false, 0) := by
    simp only [setS, par2S, par3S, asgS, retS, seqS, skipS, ifS, forS, appS, extS, augD, dputS, brkS, contS, fzE, fz1, eget, eset, mkS, dLit, dVar, dVarB, dB, bin2, bin2S, bin2R, un1, consA, nilA, consB, nilB, tupV, lstV, call1, callV, toDs, Sl.toD, rng1S, rng2S, lenKV, ixKV, nameG, tupG, consG, nilG, noO, someO, slcV, andV, orV, notV, iteV, chV, isC, anyS, anyN, itemsS, itemsN, drawV, isiV, addD, subD, modD, fdivD, absD, WH.intD, ltD, leD, gtD, geD, negD, mul_r, Option.bind_some, Option.map_some, Option.bind_none, Option.map_none, Int.reduceLT, Int.reduceLE, decide_true, decide_false, if_true, if_false, Bool.and_self, Bool.and_true, Bool.true_and, List.length_cons, List.length_nil, reduceCtorEq, numset begins h (by omega), Bool.not_true]
  rw [seqS_nx (ρ1 := [some (.fr (.tuple (seams.map .int))), some (.fr (.int w)), some (.fr (.tuple (begins.map .int))), none, none]) (m := 0) ((ifS_f e1).trans rfl)]
  have key : lcV (anyS (dVarB 0)) (nameG 3) (dLit (.bool true)) (call1 anyD (consB (dB (lcV (anyS (dVarB 2)) (nameG 4) (dLit (.bool true)) (chV leD ltD (dVarB 4) (dVarB 3) (dB (bin2 addD (dVarB 4) (dVarB 1)))) [4])) nilB)) [3] [some (.fr (.tuple (seams.map .int))), some (.fr (.int w)), some (.fr (.tuple (begins.map .int))), none, none] 0
      = some (.list ((seams.map fun s => begins.any fun b => decide (b ≤ s) && decide (s < b + w)).map .bool), 0) := by
    refine lcV_at (ds := seams.map .int) (m := 0) rfl (by rw [List.length_map]; show _ ≤ 1000000; omega) ?_
    rw [lcGo_all (h := fun s => PyData.bool (begins.any fun b => decide (b ≤ s) && decide (s < b + w))) fun s hs => ⟨_, rfl, ?_⟩]
    · rw [List.map_map] <;> rfl
    · have k2 : lcV (anyS (dVarB 2)) (nameG 4) (dLit (.bool true)) (chV leD ltD (dVarB 4) (dVarB 3) (dB (bin2 addD (dVarB 4) (dVarB 1)))) [4] [some (.fr (.tuple (seams.map .int))), some (.fr (.int w)), some (.fr (.tuple (begins.map .int))), some (.fr (.int s)), none] 0
          = some (.list ((begins.map fun b => decide (b ≤ s) && decide (s < b + w)).map .bool), 0) := by
        refine lcV_at (ds := begins.map .int) (m := 0) rfl (by rw [List.length_map]; show _ ≤ 1000000; omega) ?_
        rw [lcGo_all (h := fun b => PyData.bool (decide (b ≤ s) && decide (s < b + w))) fun b hb => ⟨_, rfl, ?_⟩]
        · rw [List.map_map] <;> rfl
        · by_cases hc : b ≤ s <;> simp only [setS, par2S, par3S, asgS, retS, seqS, skipS, ifS, forS, appS, extS, augD, dputS, brkS, contS, fzE, fz1, eget, eset, mkS, dLit, dVar, dVarB, dB, bin2, bin2S, bin2R, un1, consA, nilA, consB, nilB, tupV, lstV, call1, callV, toDs, Sl.toD, rng1S, rng2S, lenKV, ixKV, nameG, tupG, consG, nilG, noO, someO, slcV, andV, orV, notV, iteV, chV, isC, anyS, anyN, itemsS, itemsN, drawV, isiV, addD, subD, modD, fdivD, absD, WH.intD, ltD, leD, gtD, geD, negD, mul_r, Option.bind_some, Option.map_some, Option.bind_none, Option.map_none, Int.reduceLT, Int.reduceLE, decide_true, decide_false, if_true, if_false, Bool.and_self, Bool.and_true, Bool.true_and, List.length_cons, List.length_nil, reduceCtorEq, wipeE, hc, Bool.false_and]
      show call1 anyD _ [some (.fr (.tuple (seams.map .int))), some (.fr (.int w)), some (.fr (.tuple (begins.map .int))), some (.fr (.int s)), none] 0 = _
      simp only [call1, consB, dB, nilB, k2, Option.bind_some, Option.map_some, toDs, Sl.toD, anyD_map, List.any_map]
      rfl
  refine seqS_rt (retS_at ?_)
  simp only [call1, consB, dB, nilB, fzE, key, Option.bind_some, Option.map_some, toDs, Sl.toD, allD_map, List.all_map]
  rfl
abbrev seams0 (ds : List Int) : List Int := sortU ds
theorem insU_len (x : Int) : ∀ l : List Int, (insU x l).length ≤ l.length + 1
  | [] => by simp [insU]
  | y :: r => by
    unfold insU
    split
    · simp
    · split
      · simp
      · have := insU_len x r
        simp only [List.length_cons]; omega
theorem sortU_len : ∀ l : List Int, (sortU l).length ≤ l.length
  | [] => Nat.le_refl _
  | x :: r => by
    have h1 := insU_len x (sortU r)
    have h2 := sortU_len r
    unfold sortU
    rw [List.length_cons]
    omega
abbrev hE (S : List Int) (w : Int) (B : List Int) (now : D) (x5 x6 x7 x8 x9 : Option Sl) : En := [some .ww, some (.fr (.tuple (S.map .int))), some (.fr (.int w)), some (.ol (B.map .int)), some (.fr now), x5, x6, x7, x8, x9]
def lastD (l : List Int) : D := match l.getLast? with
  | none => .none
  | some b => .int b
def body1 : DenS := (seqS (ifS [] (orV (un1 (isC false .none) (dVarB 4)) (bin2 geD (dVarB 5) (dB (bin2 addD (dVarB 4) (dVarB 2))))) (seqS (setS 4 [5] .no (dVar 5)) (seqS (appS 3 [4] (dVar 4)) skipS)) skipS) skipS)
theorem turn1 (S : List Int) (w s : Int) (acc : List Int) (x6 x7 x8 x9 : Option Sl) (n : Nat) (hl : acc.length < 1000) : body1 (hE S w acc (lastD acc) (some (.fr (.int s))) x6 x7 x8 x9) n = some (.nx (hE S w (stp w acc s) (lastD (stp w acc s)) (some (.fr (.int s))) x6 x7 x8 x9), n) := by
  have h0 : (acc.map PyData.int).length < LIM := by rw [List.length_map]; show _ < 1000000; omega
  rcases List.eq_nil_or_concat acc with e | ⟨l, b, e⟩
  · subst e
    have h1 : (0 : Nat) < LIM := by decide
    simp only [body1, hE, setS, par2S, par3S, asgS, retS, seqS, skipS, ifS, forS, appS, extS, augD, dputS, brkS, contS, fzE, fz1, eget, eset, mkS, dLit, dVar, dVarB, dB, bin2, bin2S, bin2R, un1, consA, nilA, consB, nilB, tupV, lstV, call1, callV, toDs, Sl.toD, rng1S, rng2S, lenKV, ixKV, nameG, tupG, consG, nilG, noO, someO, slcV, andV, orV, notV, iteV, chV, isC, anyS, anyN, itemsS, itemsN, drawV, isiV, addD, subD, modD, fdivD, absD, WH.intD, ltD, leD, gtD, geD, negD, mul_r, Option.bind_some, Option.map_some, Option.bind_none, Option.map_none, Int.reduceLT, Int.reduceLE, decide_true, decide_false, if_true, if_false, Bool.and_self, Bool.and_true, Bool.true_and, List.length_cons, List.length_nil, reduceCtorEq, lastD, stp, List.getLast?_nil, List.getLast?_singleton, List.map_nil, h1, List.nil_append, List.map_cons, Bool.false_bne, Bool.false_xor, Bool.xor_true, Bool.not_false]
  · rw [List.concat_eq_append] at e
    subst e
    by_cases hc : b + w ≤ s
    · simp only [body1, hE, setS, par2S, par3S, asgS, retS, seqS, skipS, ifS, forS, appS, extS, augD, dputS, brkS, contS, fzE, fz1, eget, eset, mkS, dLit, dVar, dVarB, dB, bin2, bin2S, bin2R, un1, consA, nilA, consB, nilB, tupV, lstV, call1, callV, toDs, Sl.toD, rng1S, rng2S, lenKV, ixKV, nameG, tupG, consG, nilG, noO, someO, slcV, andV, orV, notV, iteV, chV, isC, anyS, anyN, itemsS, itemsN, drawV, isiV, addD, subD, modD, fdivD, absD, WH.intD, ltD, leD, gtD, geD, negD, mul_r, Option.bind_some, Option.map_some, Option.bind_none, Option.map_none, Int.reduceLT, Int.reduceLE, decide_true, decide_false, if_true, if_false, Bool.and_self, Bool.and_true, Bool.true_and, List.length_cons, List.length_nil, reduceCtorEq, lastD, stp, List.getLast?_concat, hc, h0, snoc_map, Bool.false_xor]
    · simp only [body1, hE, setS, par2S, par3S, asgS, retS, seqS, skipS, ifS, forS, appS, extS, augD, dputS, brkS, contS, fzE, fz1, eget, eset, mkS, dLit, dVar, dVarB, dB, bin2, bin2S, bin2R, un1, consA, nilA, consB, nilB, tupV, lstV, call1, callV, toDs, Sl.toD, rng1S, rng2S, lenKV, ixKV, nameG, tupG, consG, nilG, noO, someO, slcV, andV, orV, notV, iteV, chV, isC, anyS, anyN, itemsS, itemsN, drawV, isiV, addD, subD, modD, fdivD, absD, WH.intD, ltD, leD, gtD, geD, negD, mul_r, Option.bind_some, Option.map_some, Option.bind_none, Option.map_none, Int.reduceLT, Int.reduceLE, decide_true, decide_false, if_true, if_false, Bool.and_self, Bool.and_true, Bool.true_and, List.length_cons, List.length_nil, reduceCtorEq, lastD, stp, List.getLast?_concat, hc, Bool.false_xor]
def body2 : DenS := (seqS (ifS [] (orV (un1 (isC false .none) (dVarB 8)) (bin2 geD (dB (bin2 subD (dVarB 5) (dVarB 8))) (dVarB 2))) (seqS (par2S 7 8 [] [5] (.own false) .no (bin2 addD (dVarB 7) (dB (dLit (.int 1)))) (dVar 5)) skipS) skipS) skipS)
theorem turn2 (S : List Int) (w s : Int) (acc : List Int) (x3 x4 x6 x9 : Option Sl) (n : Nat) : body2 [some .ww, some (.fr (.tuple (S.map .int))), some (.fr (.int w)), x3, x4, some (.fr (.int s)), x6, some (.fr (.int acc.length)), some (.fr (lastD acc)), x9] n
    = some (.nx [some .ww, some (.fr (.tuple (S.map .int))), some (.fr (.int w)), x3, x4, some (.fr (.int s)), x6, some (.fr (.int (stp w acc s).length)), some (.fr (lastD (stp w acc s))), x9], n) := by
  rcases List.eq_nil_or_concat acc with e | ⟨l, b, e⟩
  · subst e
    simp only [body2, setS, par2S, par3S, asgS, retS, seqS, skipS, ifS, forS, appS, extS, augD, dputS, brkS, contS, fzE, fz1, eget, eset, mkS, dLit, dVar, dVarB, dB, bin2, bin2S, bin2R, un1, consA, nilA, consB, nilB, tupV, lstV, call1, callV, toDs, Sl.toD, rng1S, rng2S, lenKV, ixKV, nameG, tupG, consG, nilG, noO, someO, slcV, andV, orV, notV, iteV, chV, isC, anyS, anyN, itemsS, itemsN, drawV, isiV, addD, subD, modD, fdivD, absD, WH.intD, ltD, leD, gtD, geD, negD, mul_r, Option.bind_some, Option.map_some, Option.bind_none, Option.map_none, Int.reduceLT, Int.reduceLE, decide_true, decide_false, if_true, if_false, Bool.and_self, Bool.and_true, Bool.true_and, List.length_cons, List.length_nil, reduceCtorEq, lastD, stp, List.getLast?_nil, List.getLast?_singleton, Bool.false_xor, List.nil_append, List.cons_append]
    rfl
  · rw [List.concat_eq_append] at e
    subst e
    have h1 : (w ≤ s - b) = (b + w ≤ s) := by
      apply propext
      constructor <;> intro h <;> omega
    by_cases hc : b + w ≤ s
    · simp only [body2, setS, par2S, par3S, asgS, retS, seqS, skipS, ifS, forS, appS, extS, augD, dputS, brkS, contS, fzE, fz1, eget, eset, mkS, dLit, dVar, dVarB, dB, bin2, bin2S, bin2R, un1, consA, nilA, consB, nilB, tupV, lstV, call1, callV, toDs, Sl.toD, rng1S, rng2S, lenKV, ixKV, nameG, tupG, consG, nilG, noO, someO, slcV, andV, orV, notV, iteV, chV, isC, anyS, anyN, itemsS, itemsN, drawV, isiV, addD, subD, modD, fdivD, absD, WH.intD, ltD, leD, gtD, geD, negD, mul_r, Option.bind_some, Option.map_some, Option.bind_none, Option.map_none, Int.reduceLT, Int.reduceLE, decide_true, decide_false, if_true, if_false, Bool.and_self, Bool.and_true, Bool.true_and, List.length_cons, List.length_nil, reduceCtorEq, lastD, stp, List.getLast?_concat, hc, h1, Bool.false_xor, List.nil_append, List.cons_append]
      simp
      omega
    · simp only [body2, setS, par2S, par3S, asgS, retS, seqS, skipS, ifS, forS, appS, extS, augD, dputS, brkS, contS, fzE, fz1, eget, eset, mkS, dLit, dVar, dVarB, dB, bin2, bin2S, bin2R, un1, consA, nilA, consB, nilB, tupV, lstV, call1, callV, toDs, Sl.toD, rng1S, rng2S, lenKV, ixKV, nameG, tupG, consG, nilG, noO, someO, slcV, andV, orV, notV, iteV, chV, isC, anyS, anyN, itemsS, itemsN, drawV, isiV, addD, subD, modD, fdivD, absD, WH.intD, ltD, leD, gtD, geD, negD, mul_r, Option.bind_some, Option.map_some, Option.bind_none, Option.map_none, Int.reduceLT, Int.reduceLE, decide_true, decide_false, if_true, if_false, Bool.and_self, Bool.and_true, Bool.true_and, List.length_cons, List.length_nil, reduceCtorEq, lastD, stp, List.getLast?_concat, hc, h1, Bool.false_xor]
theorem drop1 (B : List Int) : WH.cutD (B.map PyData.int) (some 1) none = (B.drop 1).map .int := by
  rw [cutD_map]
  unfold WH.cutD
  rw [show HT.sIx B.length 0 (some 1) = min 1 B.length from HT.sIx_nat B.length 0 1, HT.sIx_none]
  cases B with
  | nil => rfl
  | cons x r => simp
theorem fzA (S : List Int) (w : Int) (x0 x3 x4 x5 x6 x7 x8 x9 : Option Sl) : fzE [1, 2] [x0, some (.fr (.tuple (S.map .int))), some (.fr (.int w)), x3, x4, x5, x6, x7, x8, x9] = [x0, some (.fr (.tuple (S.map .int))), some (.fr (.int w)), x3, x4, x5, x6, x7, x8, x9] := rfl
theorem plain (o : Nat → Int) (n : Nat) : ∃ n2, B_law_holds o (some .ww :: List.replicate 9 none) n = some (.rt (.bool true), n2) := by
  have m9 := mod_lt (a := o n) (m := 9) (by decide)
  -- the seams drawn
  obtain ⟨ys, n1, e1, hl, hP⟩ := lcGo_draw (g := nameG 9) (e := drawV o 0 (dLit (.int 30))) (ρw := wipeE (some Sl.ww :: List.replicate 9 none) [9]) (P := fun y => ∃ z, y = .int z ∧ (0 ≤ z ∧ z < 30)) (ds := rangeD 0 (o n % 9).toNat) (n := n + 1)
    fun d _ n => ⟨_, _, _, rfl, draw_at (m := 30) rfl rfl (by decide), _, rfl, mod_lt (by decide)⟩
  obtain ⟨ds, rfl, hds⟩ := ints_of_all hP
  rw [List.length_map, rangeD_length] at hl
  have hl9 : ds.length ≤ 8 := by omega
  have a1 : lcV (rng1S (dB (drawV o 0 (dLit (.int 9))))) (nameG 9) (dLit (.bool true)) (drawV o 0 (dLit (.int 30))) [9] (some .ww :: List.replicate 9 none) n = some (.list (ds.map .int), n1) :=
    lcV_at (rng1_at (j := o n % 9) (m := n + 1) (by unfold dB; rw [draw_at (m := 9) (k := n) rfl rfl (by decide)] <;> rfl) (by omega) (by omega)) (by rw [rangeD_length]; show _ ≤ 1000000; omega) e1
  have a2 : setS 1 [] .no (call1 tupD (consB (dB (un1 setSortD (dB (lcV (rng1S (dB (drawV o 0 (dLit (.int 9))))) (nameG 9) (dLit (.bool true)) (drawV o 0 (dLit (.int 30))) [9])))) nilB)) (some .ww :: List.replicate 9 none) n = some (.nx [some .ww, some (.fr (.tuple ((sortU ds).map .int))), none, none, none, none, none, none, none, none], n1) := by
    refine setS_at ?_
    have : ds.length < 64 := by omega
    simp only [call1, consB, un1, dB, nilB, fzE, a1, Option.bind_some, Option.map_some, toDs, Sl.toD, setSortD, intsOf_map, this, if_true, tupD]
  have hS : (sortU ds).length ≤ 8 := Nat.le_trans (sortU_len ds) hl9
  have hasc := sortU_sorted ds
  generalize sortU ds = S at a2 hS hasc
  -- how wide
  have m7 := mod_lt (a := o n1) (m := 7) (by decide)
  generalize hw : o n1 % 7 = d7 at m7
  have a3 : setS 2 [] (.own false) (bin2 addD (dB (dLit (.int 1))) (dB (drawV o 0 (dLit (.int 7))))) [some .ww, some (.fr (.tuple (S.map .int))), none, none, none, none, none, none, none, none] n1 = some (.nx [some .ww, some (.fr (.tuple (S.map .int))), some (.fr (.int (1 + d7))), none, none, none, none, none, none, none], n1 + 1) := by
    refine setS_at (d := .int (1 + d7)) ?_
    have := draw_at (o := o) (i := 0) (f := dLit (.int 7)) (ρ := fzE [] [some .ww, some (.fr (.tuple (S.map .int))), none, none, none, none, none, none, none, none]) (n := n1) (k := n1) (m := 7) rfl rfl (by decide)
    rw [hw] at this
    simp only [bin2, dB, this, Option.bind_some, Option.map_some, dLit, Sl.toD, addD]
  have hw1 : 1 ≤ 1 + d7 := by omega
  generalize 1 + d7 = w at a3 hw1
  have I := inv_gr hw1 hasc
  have hB : (gr w S).length ≤ 8 := Nat.le_trans I.len hS
  -- the first loop
  obtain ⟨ρ', n', e4, x5, rfl, rfl⟩ := forGo_map (g := nameG 5) (body := body1) (enc := PyData.int) (all := S) (fun pre ρ n => ∃ x5, ρ = hE S w (gr w pre) (lastD (gr w pre)) x5 none none none none ∧ n = n1 + 1) (by
      rintro pre a post ρ n hall ⟨x5, rfl, rfl⟩
      have hp : pre.length < 1000 := by
        have := congrArg List.length hall
        rw [List.length_append, List.length_cons] at this
        omega
      have := gr_len w pre
      refine ⟨_, _, _, rfl, turn1 S w a (gr w pre) none none none none (n1 + 1) (by omega), some (.fr (.int a)), ?_, rfl⟩
      rw [gr_snoc]) S [] (hE S w [] .none none none none none none) (n1 + 1) (List.nil_append _).symm ⟨none, rfl, rfl⟩
  -- the second
  obtain ⟨ρ', n', e8, x5', rfl, rfl⟩ := forGo_map (g := nameG 5) (body := body2) (enc := PyData.int) (all := S) (fun pre ρ n => ∃ x5, ρ = [some .ww, some (.fr (.tuple (S.map .int))), some (.fr (.int w)), some (.ol ((gr w S).map .int)), some (.fr (lastD (gr w S))), x5, some (.fr (.tuple ((gr w S).map .int))), some (.fr (.int (gr w pre).length)), some (.fr (lastD (gr w pre))), none] ∧ n = n1 + 1) (by
      rintro pre a post ρ n hall ⟨x5, rfl, rfl⟩
      refine ⟨_, _, _, rfl, turn2 S w a (gr w pre) _ _ _ _ (n1 + 1), some (.fr (.int a)), ?_, rfl⟩
      rw [gr_snoc]) S [] [some .ww, some (.fr (.tuple (S.map .int))), some (.fr (.int w)), some (.ol ((gr w S).map .int)), some (.fr (lastD (gr w S))), x5, some (.fr (.tuple ((gr w S).map .int))), some (.fr (.int 0)), some (.fr .none), none] (n1 + 1) (List.nil_append _).symm ⟨x5, rfl, rfl⟩
  have c1 : (S.all fun s => (gr w S).any fun b => decide (b ≤ s) && decide (s < b + w)) = true := by
    refine List.all_eq_true.mpr fun s hs => List.any_eq_true.mpr ?_
    obtain ⟨b, hb, h1, h2⟩ := I.cov s hs
    exact ⟨b, hb, by simp [h1, h2]⟩
  have p1 := patch S w (by omega)
  have q1 := covered S (gr w S) w I.asc (by omega) (by omega)
  rw [c1] at q1
  have q2 := covered S ((gr w S).drop 1) w (I.asc.drop) (by rw [List.length_drop]; omega) (by omega)
  have r1 := neD_tints (gr w S) (gr w S)
  have r2 : (gr w S = []) ∨ (S.all fun s => ((gr w S).drop 1).any fun b => decide (b ≤ s) && decide (s < b + w)) = false := by
    cases hg : gr w S with
    | nil => exact .inl rfl
    | cons b r =>
      right
      have hh := I.hd
      have ha := I.asc
      rw [hg] at hh ha
      cases hS' : S with
      | nil => rw [hS'] at hh; cases hh
      | cons s t =>
        rw [hS'] at hh
        cases hh
        rw [List.all_cons, Bool.and_eq_false_iff]
        left
        refine List.any_eq_false.mpr fun c hc => ?_
        have := (List.pairwise_cons.mp ha).1 c hc
        simp; omega
  unfold body1 hE at e4
  unfold body2 at e8
  refine ⟨n1 + 1, ?_⟩
  unfold B_law_holds
  rw [seqS_nx a2, seqS_nx a3]
  rw [seqS_nx (ρ1 := hE S w [] .none none none none none none) (m := n1 + 1) rfl]
  rw [seqS_nx ((forS_at (lk := [1]) (ρ := hE S w [] .none none none none none none) (m := n1 + 1) (ds := S.map .int) rfl).trans e4)]
  rw [seqS_nx (ρ1 := [some .ww, some (.fr (.tuple (S.map .int))), some (.fr (.int w)), some (.ol ((gr w S).map .int)), some (.fr (lastD (gr w S))), x5, some (.fr (.tuple ((gr w S).map .int))), none, none, none]) (m := n1 + 1) (by
    refine setS_at (d := .tuple ((gr w S).map .int)) ?_
    simp only [setS, par2S, par3S, asgS, retS, seqS, skipS, ifS, forS, appS, extS, augD, dputS, brkS, contS, fzE, fz1, eget, eset, mkS, dLit, dVar, dVarB, dB, bin2, bin2S, bin2R, un1, consA, nilA, consB, nilB, tupV, lstV, call1, callV, toDs, Sl.toD, rng1S, rng2S, lenKV, ixKV, nameG, tupG, consG, nilG, noO, someO, slcV, andV, orV, notV, iteV, chV, isC, anyS, anyN, itemsS, itemsN, drawV, isiV, addD, subD, modD, fdivD, absD, WH.intD, ltD, leD, gtD, geD, negD, mul_r, Option.bind_some, Option.map_some, Option.bind_none, Option.map_none, Int.reduceLT, Int.reduceLE, decide_true, decide_false, if_true, if_false, Bool.and_self, Bool.and_true, Bool.true_and, List.length_cons, List.length_nil, reduceCtorEq, p1])]
  rw [seqS_nx (ρ1 := [some .ww, some (.fr (.tuple (S.map .int))), some (.fr (.int w)), some (.ol ((gr w S).map .int)), some (.fr (lastD (gr w S))), x5, some (.fr (.tuple ((gr w S).map .int))), none, none, none]) (m := n1 + 1) (by
    refine (ifS_f (m := n1 + 1) ?_).trans rfl
    have : decide (gr w S = gr w S) = true := decide_eq_true rfl
    simp only [setS, par2S, par3S, asgS, retS, seqS, skipS, ifS, forS, appS, extS, augD, dputS, brkS, contS, fzE, fz1, eget, eset, mkS, dLit, dVar, dVarB, dB, bin2, bin2S, bin2R, un1, consA, nilA, consB, nilB, tupV, lstV, call1, callV, toDs, Sl.toD, rng1S, rng2S, lenKV, ixKV, nameG, tupG, consG, nilG, noO, someO, slcV, andV, orV, notV, iteV, chV, isC, anyS, anyN, itemsS, itemsN, drawV, isiV, addD, subD, modD, fdivD, absD, WH.intD, ltD, leD, gtD, geD, negD, mul_r, Option.bind_some, Option.map_some, Option.bind_none, Option.map_none, Int.reduceLT, Int.reduceLE, decide_true, decide_false, if_true, if_false, Bool.and_self, Bool.and_true, Bool.true_and, List.length_cons, List.length_nil, reduceCtorEq, tupD, r1, this, Bool.not_true, q1]
    rfl)]
  rw [seqS_nx (ρ1 := [some .ww, some (.fr (.tuple (S.map .int))), some (.fr (.int w)), some (.ol ((gr w S).map .int)), some (.fr (lastD (gr w S))), x5, some (.fr (.tuple ((gr w S).map .int))), some (.fr (.int 0)), some (.fr .none), none]) (m := n1 + 1) rfl]
  rw [seqS_nx ((forS_at (lk := [1]) (ρ := [some .ww, some (.fr (.tuple (S.map .int))), some (.fr (.int w)), some (.ol ((gr w S).map .int)), some (.fr (lastD (gr w S))), x5, some (.fr (.tuple ((gr w S).map .int))), some (.fr (.int 0)), some (.fr .none), none]) (m := n1 + 1) (ds := S.map .int) rfl).trans e8)]
  refine seqS_rt (retS_at ?_)
  rw [fzA]
  have u1 := eqD_int ((gr w S).length : Int) ((gr w S).length : Int)
  have u2 := eqD_ints (gr w S) []
  simp only [List.map_nil] at u2
  have u3 : decide (((gr w S).length : Int) = ((gr w S).length : Int)) = true := decide_eq_true rfl
  rcases r2 with r2 | r2
  · have u4 : decide (gr w S = []) = true := decide_eq_true r2
    simp only [setS, par2S, par3S, asgS, retS, seqS, skipS, ifS, forS, appS, extS, augD, dputS, brkS, contS, fzE, fz1, eget, eset, mkS, dLit, dVar, dVarB, dB, bin2, bin2S, bin2R, un1, consA, nilA, consB, nilB, tupV, lstV, call1, callV, toDs, Sl.toD, rng1S, rng2S, lenKV, ixKV, nameG, tupG, consG, nilG, noO, someO, slcV, andV, orV, notV, iteV, chV, isC, anyS, anyN, itemsS, itemsN, drawV, isiV, addD, subD, modD, fdivD, absD, WH.intD, ltD, leD, gtD, geD, negD, mul_r, Option.bind_some, Option.map_some, Option.bind_none, Option.map_none, Int.reduceLT, Int.reduceLE, decide_true, decide_false, if_true, if_false, Bool.and_self, Bool.and_true, Bool.true_and, List.length_cons, List.length_nil, reduceCtorEq, lenD, List.length_map, u1, u3, u2, u4, Nat.zero_le]
  · rw [r2] at q2
    cases u4 : decide (gr w S = []) with
    | true => simp only [setS, par2S, par3S, asgS, retS, seqS, skipS, ifS, forS, appS, extS, augD, dputS, brkS, contS, fzE, fz1, eget, eset, mkS, dLit, dVar, dVarB, dB, bin2, bin2S, bin2R, un1, consA, nilA, consB, nilB, tupV, lstV, call1, callV, toDs, Sl.toD, rng1S, rng2S, lenKV, ixKV, nameG, tupG, consG, nilG, noO, someO, slcV, andV, orV, notV, iteV, chV, isC, anyS, anyN, itemsS, itemsN, drawV, isiV, addD, subD, modD, fdivD, absD, WH.intD, ltD, leD, gtD, geD, negD, mul_r, Option.bind_some, Option.map_some, Option.bind_none, Option.map_none, Int.reduceLT, Int.reduceLE, decide_true, decide_false, if_true, if_false, Bool.and_self, Bool.and_true, Bool.true_and, List.length_cons, List.length_nil, reduceCtorEq, lenD, List.length_map, u1, u3, u2, u4, Nat.zero_le]
    | false =>
      simp only [setS, par2S, par3S, asgS, retS, seqS, skipS, ifS, forS, appS, extS, augD, dputS, brkS, contS, fzE, fz1, eget, eset, mkS, dLit, dVar, dVarB, dB, bin2, bin2S, bin2R, un1, consA, nilA, consB, nilB, tupV, lstV, call1, callV, toDs, Sl.toD, rng1S, rng2S, lenKV, ixKV, nameG, tupG, consG, nilG, noO, someO, slcV, andV, orV, notV, iteV, chV, isC, anyS, anyN, itemsS, itemsN, drawV, isiV, addD, subD, modD, fdivD, absD, WH.intD, ltD, leD, gtD, geD, negD, mul_r, Option.bind_some, Option.map_some, Option.bind_none, Option.map_none, Int.reduceLT, Int.reduceLE, decide_true, decide_false, if_true, if_false, Bool.and_self, Bool.and_true, Bool.true_and, List.length_cons, List.length_nil, reduceCtorEq, lenD, List.length_map, u1, u3, u2, u4, Nat.zero_le, slcD, drop1, tupD, q2]
      rfl

theorem ksq_of {K : Frag} {H : Hp} {a : Addr} {xs : List V} (h : Only H) (s : SqL K H a xs) : KSq K H a xs := by
  rcases s with (s | ⟨ob, s⟩) | s
  · rcases h a with z | ⟨ob, ys, z⟩
    · rw [z] at s; cases s
    · rw [z] at s; cases s
  · exact .inl ⟨ob, s⟩
  · exact .inr s
theorem all_mk {l : PySem.W.OpenLaw} {w : World} {K : Frag} {h : Heap} {mg : Str → Option Value} {fa : Addr} (X : K.In h) (G : h.Ns mainGlobals mg) (hfa : mg "law" = some (.ref fa))
    {f0 : Addr} {od0 an0 : Option Addr} {sl0 : Array (Option Value)} {oc0 kV0 dc0 pm0 cd0 ct0 : Value}
    (a0 : PySem.W.nsIn K mainGlobals "is_number" = some (some (.ref f0))) (l0 : K.lookup f0 = some ⟨oc0, od0, .func (PySem.W.fnOf "is_number" "is_number" (defArgs s_is_number) (defBody s_is_number) (defScope s_is_number) .none kV0 dc0 pm0 an0 cd0 ct0), sl0⟩) (c0 : PySem.W.codeIn K cd0 "is_number" = true) (k0 : PySem.W.keepIn K (.ref f0) = true)
    {f1 : Addr} {od1 an1 : Option Addr} {sl1 : Array (Option Value)} {oc1 kV1 dc1 pm1 cd1 ct1 : Value}
    (a1 : PySem.W.nsIn K mainGlobals "is_ascending" = some (some (.ref f1))) (l1 : K.lookup f1 = some ⟨oc1, od1, .func (PySem.W.fnOf "is_ascending" "is_ascending" (defArgs s_is_ascending) (defBody s_is_ascending) (defScope s_is_ascending) .none kV1 dc1 pm1 an1 cd1 ct1), sl1⟩) (c1 : PySem.W.codeIn K cd1 "is_ascending" = true) (k1 : PySem.W.keepIn K (.ref f1) = true)
    {f2 : Addr} {od2 an2 : Option Addr} {sl2 : Array (Option Value)} {oc2 kV2 dc2 pm2 cd2 ct2 : Value}
    (a2 : PySem.W.nsIn K mainGlobals "is_number_set" = some (some (.ref f2))) (l2 : K.lookup f2 = some ⟨oc2, od2, .func (PySem.W.fnOf "is_number_set" "is_number_set" (defArgs s_is_number_set) (defBody s_is_number_set) (defScope s_is_number_set) .none kV2 dc2 pm2 an2 cd2 ct2), sl2⟩) (c2 : PySem.W.codeIn K cd2 "is_number_set" = true) (k2 : PySem.W.keepIn K (.ref f2) = true)
    {f3 : Addr} {od3 an3 : Option Addr} {sl3 : Array (Option Value)} {oc3 kV3 dc3 pm3 cd3 ct3 : Value}
    (a3 : PySem.W.nsIn K mainGlobals "patch_row" = some (some (.ref f3))) (l3 : K.lookup f3 = some ⟨oc3, od3, .func (PySem.W.fnOf "patch_row" "patch_row" (defArgs s_patch_row) (defBody s_patch_row) (defScope s_patch_row) .none kV3 dc3 pm3 an3 cd3 ct3), sl3⟩) (c3 : PySem.W.codeIn K cd3 "patch_row" = true) (k3 : PySem.W.keepIn K (.ref f3) = true)
    {f4 : Addr} {od4 an4 : Option Addr} {sl4 : Array (Option Value)} {oc4 kV4 dc4 pm4 cd4 ct4 : Value}
    (a4 : PySem.W.nsIn K mainGlobals "is_patched" = some (some (.ref f4))) (l4 : K.lookup f4 = some ⟨oc4, od4, .func (PySem.W.fnOf "is_patched" "is_patched" (defArgs s_is_patched) (defBody s_is_patched) (defScope s_is_patched) .none kV4 dc4 pm4 an4 cd4 ct4), sl4⟩) (c4 : PySem.W.codeIn K cd4 "is_patched" = true) (k4 : PySem.W.keepIn K (.ref f4) = true)
    {f5 : Addr} {od5 an5 : Option Addr} {sl5 : Array (Option Value)} {oc5 kV5 dc5 pm5 cd5 ct5 : Value}
    (a5 : PySem.W.nsIn K mainGlobals "_law_draws" = some (some (.ref f5))) (l5 : K.lookup f5 = some ⟨oc5, od5, .func (PySem.W.fnOf "_law_draws" "_law_draws" (defArgs s__law_draws) (defBody s__law_draws) (defScope s__law_draws) .none kV5 dc5 pm5 an5 cd5 ct5), sl5⟩) (c5 : PySem.W.codeIn K cd5 "_law_draws" = true) (k5 : PySem.W.keepIn K (.ref f5) = true)
    {f6 : Addr} {od6 an6 : Option Addr} {sl6 : Array (Option Value)} {oc6 kV6 dc6 pm6 cd6 ct6 : Value}
    (a6 : PySem.W.nsIn K mainGlobals "_law_next" = some (some (.ref f6))) (l6 : K.lookup f6 = some ⟨oc6, od6, .func (PySem.W.fnOf "_law_next" "_law_next" (defArgs s__law_next) (defBody s__law_next) (defScope s__law_next) .none kV6 dc6 pm6 an6 cd6 ct6), sl6⟩) (c6 : PySem.W.codeIn K cd6 "_law_next" = true) (k6 : PySem.W.keepIn K (.ref f6) = true)
    {f7 : Addr} {od7 an7 : Option Addr} {sl7 : Array (Option Value)} {oc7 kV7 dc7 pm7 cd7 ct7 : Value}
    (a7 : PySem.W.nsIn K mainGlobals "_law_holds" = some (some (.ref f7))) (l7 : K.lookup f7 = some ⟨oc7, od7, .func (PySem.W.fnOf "_law_holds" "_law_holds" (defArgs s__law_holds) (defBody s__law_holds) (defScope s__law_holds) .none kV7 dc7 pm7 an7 cd7 ct7), sl7⟩) (c7 : PySem.W.codeIn K cd7 "_law_holds" = true) (k7 : PySem.W.keepIn K (.ref f7) = true)
    {f8 : Addr} {od8 an8 : Option Addr} {sl8 : Array (Option Value)} {oc8 kV8 dc8 pm8 cd8 ct8 : Value}
    (a8 : PySem.W.nsIn K mainGlobals "law" = some (some (.ref f8))) (l8 : K.lookup f8 = some ⟨oc8, od8, .func (PySem.W.fnOf "law" "law" (defArgs s_law) (defBody s_law) (defScope s_law) .none kV8 dc8 pm8 an8 cd8 ct8), sl8⟩) (c8 : PySem.W.codeIn K cd8 "law" = true) (k8 : PySem.W.keepIn K (.ref f8) = true)
    (z0 : PySem.W.nsIn K mainGlobals "isinstance" = some none)
    (z1 : PySem.W.nsIn K mainGlobals "bool" = some none)
    (z2 : PySem.W.nsIn K mainGlobals "int" = some none)
    (z3 : PySem.W.nsIn K mainGlobals "range" = some none)
    (z4 : PySem.W.nsIn K mainGlobals "len" = some none)
    (z5 : PySem.W.nsIn K mainGlobals "all" = some none)
    (z6 : PySem.W.nsIn K mainGlobals "tuple" = some none)
    (z7 : PySem.W.nsIn K mainGlobals "any" = some none)
    (z8 : PySem.W.nsIn K mainGlobals "abs" = some none)
    (z9 : PySem.W.nsIn K mainGlobals "sorted" = some none)
    (z10 : PySem.W.nsIn K mainGlobals "set" = some none)
    : ∃ fd : FuncData, (∀ (s : Shared) (v : Value), BindsTo s fd ⟨[v], []⟩ [("script", v)]) ∧ ∀ base : Heap, K.In base → base.Ns mainGlobals mg → FnOk l.prog w K mg base CX0 6 fa fd ["script"] (spLaw K) := by
  have e := hfa.symm.trans (PySem.W.mg_of X G a8)
  cases e
  have m_isinstance := PySem.W.mg_none_of X G z0
  have m_bool := PySem.W.mg_none_of X G z1
  have m_int := PySem.W.mg_none_of X G z2
  have m_range := PySem.W.mg_none_of X G z3
  have m_len := PySem.W.mg_none_of X G z4
  have m_all := PySem.W.mg_none_of X G z5
  have m_tuple := PySem.W.mg_none_of X G z6
  have m_any := PySem.W.mg_none_of X G z7
  have m_abs := PySem.W.mg_none_of X G z8
  have m_sorted := PySem.W.mg_none_of X G z9
  have m_set := PySem.W.mg_none_of X G z10
  have F0 := fun_mk (st := s_is_number) l0 c0 k0
  have b0 := F0.binds (ps := ["thing"]) fun _ _ _ _ _ _ us hl => match us, hl with | [_], _ => rfl
  have F1 := fun_mk (st := s_is_ascending) l1 c1 k1
  have b1 := F1.binds (ps := ["things"]) fun _ _ _ _ _ _ us hl => match us, hl with | [_], _ => rfl
  have F2 := fun_mk (st := s_is_number_set) l2 c2 k2
  have b2 := F2.binds (ps := ["thing"]) fun _ _ _ _ _ _ us hl => match us, hl with | [_], _ => rfl
  have F3 := fun_mk (st := s_patch_row) l3 c3 k3
  have b3 := F3.binds (ps := ["seams", "wide"]) fun _ _ _ _ _ _ us hl => match us, hl with | [_, _], _ => rfl
  have F4 := fun_mk (st := s_is_patched) l4 c4 k4
  have b4 := F4.binds (ps := ["seams", "wide", "begins"]) fun _ _ _ _ _ _ us hl => match us, hl with | [_, _, _], _ => rfl
  have F5 := fun_mk (st := s__law_draws) l5 c5 k5
  have b5 := F5.binds (ps := ["script", "many"]) fun _ _ _ _ _ _ us hl => match us, hl with | [_, _], _ => rfl
  have F6 := fun_mk (st := s__law_next) l6 c6 k6
  have b6 := F6.binds (ps := ["w", "many"]) fun _ _ _ _ _ _ us hl => match us, hl with | [_, _], _ => rfl
  have F7 := fun_mk (st := s__law_holds) l7 c7 k7
  have b7 := F7.binds (ps := ["w"]) fun _ _ _ _ _ _ us hl => match us, hl with | [_], _ => rfl
  have F8 := fun_mk (st := s_law) l8 c8 k8
  refine ⟨PySem.W.fnOf "law" "law" (defArgs s_law) (defBody s_law) (defScope s_law) .none kV8 dc8 pm8 an8 cd8 ct8, fun s v => .of_eq rfl, fun base _ _ => ?_⟩
  have NX : NextK l.prog w K mg base := ⟨_, _, ok_law_next F6 m_len m_int, PySem.W.mg_of X G a6, F6.kp, b6⟩
  have G_is_number : Fk l.prog w K mg base 1 "is_number" ["thing"] D_is_number := ⟨_, _, ok_is_number F0 m_isinstance m_bool m_int, PySem.W.mg_of X G a0, F0.kp, b0⟩
  have G_is_ascending : Fk l.prog w K mg base 1 "is_ascending" ["things"] D_is_ascending := ⟨_, _, ok_is_ascending F1 m_range m_len m_all, PySem.W.mg_of X G a1, F1.kp, b1⟩
  have G_is_number_set : Fk l.prog w K mg base 2 "is_number_set" ["thing"] D_is_number_set := ⟨_, _, ok_is_number_set F2 m_all m_isinstance m_tuple G_is_ascending G_is_number, PySem.W.mg_of X G a2, F2.kp, b2⟩
  have G_patch_row : Fk l.prog w K mg base 1 "patch_row" ["seams", "wide"] D_patch_row := ⟨_, _, ok_patch_row F3 m_tuple, PySem.W.mg_of X G a3, F3.kp, b3⟩
  have G_is_patched : Fk l.prog w K mg base 3 "is_patched" ["seams", "wide", "begins"] D_is_patched := ⟨_, _, ok_is_patched F4 m_any m_all G_is_number_set, PySem.W.mg_of X G a4, F4.kp, b4⟩
  exact ok_law (k := 4) F8 (ok_law_draws F5 m_range m_len m_int m_abs) (PySem.W.mg_of X G a5) F5.kp b5 (ok_law_holds F7 m_range m_sorted m_set m_tuple m_len NX G_patch_row G_is_patched plain) (PySem.W.mg_of X G a7) F7.kp b7 m_range
end K03
open PySem PySem.W PyProof.Rows
set_option maxHeartbeats 0 in
theorem PySem.Challenge.cw_windheld_k03_whole_known_patches_on_a_ro_holds : PySem.Challenge.rw_windheld_k03_whole_known_patches_on_a_ro.Holds := by
  w_on; o_law; k_head; (case hw => w_witness2)
  k_fill
  refine L2.walk_of (l := PySem.Challenge.rw_windheld_k03_whole_known_patches_on_a_ro) (n := 63) (k := 6) (x := "script") (CX := fun _ => L2.CX0) (sp := fun w => K03.spLaw _) rfl (by decide) rfl ⟨rfl, by decide, by decide⟩ (fun w h Y => PySem.W.kIn_of Y) ?F (fun _ _ a ns hl hO hS => ⟨a, ns, rfl, K03.ksq_of hO hS, hl, fun _ => rfl⟩) (fun _ _ _ _ _ h => h)
  case F =>
    intro w mg fa h KX G hmg
    refine' K03.all_mk KX G hmg ?a0 ?l0 ?c0 ?k0 ?a1 ?l1 ?c1 ?k1 ?a2 ?l2 ?c2 ?k2 ?a3 ?l3 ?c3 ?k3 ?a4 ?l4 ?c4 ?k4 ?a5 ?l5 ?c5 ?k5 ?a6 ?l6 ?c6 ?k6 ?a7 ?l7 ?c7 ?k7 ?a8 ?l8 ?c8 ?k8 ?z0 ?z1 ?z2 ?z3 ?z4 ?z5 ?z6 ?z7 ?z8 ?z9 ?z10
    (case a0 => k_is); (case l0 => k_is); (case c0 => k_is); (case k0 => k_is); (case a1 => k_is); (case l1 => k_is); (case c1 => k_is); (case k1 => k_is); (case a2 => k_is); (case l2 => k_is); (case c2 => k_is); (case k2 => k_is); (case a3 => k_is); (case l3 => k_is); (case c3 => k_is); (case k3 => k_is); (case a4 => k_is); (case l4 => k_is); (case c4 => k_is); (case k4 => k_is); (case a5 => k_is); (case l5 => k_is); (case c5 => k_is); (case k5 => k_is); (case a6 => k_is); (case l6 => k_is); (case c6 => k_is); (case k6 => k_is); (case a7 => k_is); (case l7 => k_is); (case c7 => k_is); (case k7 => k_is); (case a8 => k_is); (case l8 => k_is); (case c8 => k_is); (case k8 => k_is); (case z0 => k_is); (case z1 => k_is); (case z2 => k_is); (case z3 => k_is); (case z4 => k_is); (case z5 => k_is); (case z6 => k_is); (case z7 => k_is); (case z8 => k_is); (case z9 => k_is); (case z10 => k_is)

