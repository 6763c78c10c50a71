import PyProof.Rows.All
import Wide.All
import OpenK.AllK
import Wide.FinOn
import HandS.ForMost
import HandS.ForExc
import KE.GoesEnum
import KE.GoesMore
import HandS.Deep
import HandS.TupAny
import HandS.Style
import HandS.Conv
import HandS.Zip
import HandS.IsInst
import HandS.RaiseMore
import HandS.WideBits
import KE.KExcSuper
import HandS.ExcIs
import KE.KExcIs
import PyProof.SumWalkG
import HandS.ExcValue
import PyProof.ReprRoads
import KE.RegKSuper
import PySem.Challenge.RW_surerota_k69_turning_refused
section
set_option Elab.async false
set_option linter.all false
set_option maxRecDepth 100000
set_option maxHeartbeats 1000000
namespace Rq
open PySem PySem.Spec PyProof.Rows L2

/-- plain data: what is never written again -/
inductive PD where
  | non | bl (b : Bool) | int (i : Int) | str (s : Str) | fn (j : Nat) | lst (l : List PD) | tup (l : List PD) | xc (k : Nat) (p : PD)
/-- data with lists that one name alone holds (ol), tuples of such (ot), and views of them (al) -/
inductive OD where
  | pl (p : PD) | ol (l : List OD) | ot (l : List OD) | al (l : List OD)
/-- what the top has written: the defs by number, the classes of errors by number -/
structure Tb where
  K : PySem.W.Frag
  adr : Nat → Addr
  cls : Nat → Value
/-- an error of the class c that stands at a, its own dict at d -/
def xcP (c : Value) (a d : Addr) : Heap → Prop := fun h => ∃ (oe : Obj) (vs : Array Value), h.get? a = some oe ∧ oe.cls = c ∧ oe.dict = some d ∧ oe.data = .fields vs

def notLst : HO → Prop
  | .lst _ => False
  | _ => True

mutual
def Vw (T : Tb) (Z : Addr → Prop) (H : Hp) : PD → V → Prop
  | .non, v => v = .non
  | .bl b, v => v = .bl b
  | .int i, v => v = .int i
  | .str s, v => v = .str s
  | .fn j, v => v = .ref (T.adr j)
  | .lst l, v => ∃ a xs, v = .ref a ∧ Rd H a (.lst xs) ∧ Z a ∧ VwL T Z H l xs
  | .tup l, v => ∃ a xs, v = .ref a ∧ Rd H a (.tup xs) ∧ VwL T Z H l xs
  | .xc k p, v => ∃ a d w, v = .ref a ∧ H a = some (.ext (xcP (T.cls k) a d)) ∧ H d = some (.xd [(("value" : Str), w)]) ∧ Vw T Z H p w
def VwL (T : Tb) (Z : Addr → Prop) (H : Hp) : List PD → List V → Prop
  | [], xs => xs = []
  | p :: ps, xs => ∃ x r, xs = x :: r ∧ Vw T Z H p x ∧ VwL T Z H ps r
end
mutual
def Vd (T : Tb) (Z : Addr → Prop) (H : Hp) : OD → V → List Addr → Prop
  | .pl p, v, B => B = [] ∧ Vw T Z H p v
  | .ol l, v, B => ∃ a xs B', v = .ref a ∧ B = a :: B' ∧ H a = some (.lst xs) ∧ VdL T Z H l xs B'
  | .ot l, v, B => ∃ a xs, v = .ref a ∧ Rd H a (.tup xs) ∧ VdL T Z H l xs B
  | .al l, v, B => ∃ a xs, v = .ref a ∧ Rd H a (.lst xs) ∧ VdL T Z H l xs B
def VdL (T : Tb) (Z : Addr → Prop) (H : Hp) : List OD → List V → List Addr → Prop
  | [], xs, B => xs = [] ∧ B = []
  | d :: ds, xs, B => ∃ x r B1 B2, xs = x :: r ∧ B = B1 ++ B2 ∧ Vd T Z H d x B1 ∧ VdL T Z H ds r B2
end
mutual
def OD.noAl : OD → Bool
  | .pl _ => true
  | .ol l => noAlL l
  | .ot l => noAlL l
  | .al _ => false
def noAlL : List OD → Bool
  | [] => true
  | d :: ds => d.noAl && noAlL ds
end
mutual
def OD.toP : OD → PD
  | .pl p => p
  | .ol l => .lst (toPL l)
  | .ot l => .tup (toPL l)
  | .al l => .lst (toPL l)
def toPL : List OD → List PD
  | [] => []
  | d :: ds => d.toP :: toPL ds
end
mutual
/-- a view of what a name holds -/
def OD.vw : OD → OD
  | .pl p => .pl p
  | .ol l => .al (vwL l)
  | .ot l => .ot (vwL l)
  | .al l => .al (vwL l)
def vwL : List OD → List OD
  | [] => []
  | d :: ds => d.vw :: vwL ds
end
mutual
/-- no lists within -/
def PD.flat : PD → Bool
  | .lst _ => false
  | .tup l => flatL l
  | .xc _ p => p.flat
  | _ => true
def flatL : List PD → Bool
  | [] => true
  | d :: ds => d.flat && flatL ds
end
mutual
/-- a view of plain data, whoever holds it -/
def PD.al : PD → OD
  | .lst l => .al (alL l)
  | .tup l => .ot (alL l)
  | p => .pl p
def alL : List PD → List OD
  | [] => []
  | p :: ps => p.al :: alL ps
end

/-- what stands still: what is frozen, and what is no list -/
def Kp (Z : Addr → Prop) (H H' : Hp) : Prop := ∀ a o, H a = some o → (Z a ∨ notLst o) → H' a = some o
theorem Same.kp {H H' : Hp} (h : Same H H') (Z : Addr → Prop) : Kp Z H H' := fun a o e _ => h a o e
theorem Kp.imp {Z Z' : Addr → Prop} {H H' : Hp} (h : Kp Z H H') (i : ∀ a, Z' a → Z a) : Kp Z' H H' := fun a o e c => h a o e (c.imp_left (i a))
theorem Kp.rd {Z : Addr → Prop} {H H' : Hp} (k : Kp Z H H') {a : Addr} {xs : List V} (z : Z a) (h : Rd H a (.lst xs)) : Rd H' a (.lst xs) := by
  rcases h with h | ⟨o, h⟩
  · exact .inl (k _ _ h (.inl z))
  · exact .inr ⟨o, k _ _ h (.inl z)⟩
theorem Kp.rdT {Z : Addr → Prop} {H H' : Hp} (k : Kp Z H H') {a : Addr} {xs : List V} (h : Rd H a (.tup xs)) : Rd H' a (.tup xs) := by
  rcases h with h | ⟨o, h⟩
  · exact .inl (k _ _ h (.inr trivial))
  · exact .inr ⟨o, k _ _ h (.inr trivial)⟩
theorem Same.rd {H H' : Hp} (h : Same H H') {a : Addr} {u : HO} (e : Rd H a u) : Rd H' a u := by
  rcases e with e | ⟨o, e⟩
  · exact .inl (h _ _ e)
  · exact .inr ⟨o, h _ _ e⟩

variable {T : Tb} {Z Z' : Addr → Prop} {H H' : Hp}
mutual
theorem Vw.mono (k : Kp Z H H') (i : ∀ a, Z a → Z' a) : ∀ {p : PD} {v : V}, Vw T Z H p v → Vw T Z' H' p v
  | .non, v, h => by simpa only [Vw] using h
  | .bl b, v, h => by simpa only [Vw] using h
  | .int b, v, h => by simpa only [Vw] using h
  | .str b, v, h => by simpa only [Vw] using h
  | .fn b, v, h => by simpa only [Vw] using h
  | .lst l, v, h => by
    simp only [Vw] at h ⊢
    obtain ⟨a, xs, e, s, z, r⟩ := h
    exact ⟨a, xs, e, k.rd z s, i _ z, VwL.mono k i r⟩
  | .tup l, v, h => by
    simp only [Vw] at h ⊢
    obtain ⟨a, xs, e, s, r⟩ := h
    exact ⟨a, xs, e, k.rdT s, VwL.mono k i r⟩
  | .xc n p, v, h => by
    simp only [Vw] at h ⊢
    obtain ⟨a, d, w, e, s, q, r⟩ := h
    exact ⟨a, d, w, e, k _ _ s (.inr trivial), k _ _ q (.inr trivial), Vw.mono k i r⟩
theorem VwL.mono (k : Kp Z H H') (i : ∀ a, Z a → Z' a) : ∀ {p : List PD} {v : List V}, VwL T Z H p v → VwL T Z' H' p v
  | [], v, h => by simpa only [VwL] using h
  | p :: ps, v, h => by
    simp only [VwL] at h ⊢
    obtain ⟨x, r, e, s, q⟩ := h
    exact ⟨x, r, e, Vw.mono k i s, VwL.mono k i q⟩
end
mutual
theorem Vd.mono {B : List Addr} (i : ∀ a, Z a → Z' a) : ∀ {d : OD} {v : V} {B : List Addr}, d.noAl = true → (∀ a o, H a = some o → (Z a ∨ a ∈ B ∨ notLst o) → H' a = some o) → Vd T Z H d v B → Vd T Z' H' d v B
  | .pl p, v, B, n, k, h => by
    simp only [Vd] at h ⊢
    exact ⟨h.1, Vw.mono (fun a o e c => k a o e (c.imp_right .inr)) i h.2⟩
  | .ol l, v, B, n, k, h => by
    simp only [Vd] at h ⊢
    simp only [OD.noAl] at n
    obtain ⟨a, xs, B', e, b, s, r⟩ := h
    subst b
    exact ⟨a, xs, B', e, rfl, k _ _ s (.inr (.inl List.mem_cons_self)), VdL.mono (B := B) i n (fun a o e c => k a o e (c.imp_right fun c => c.imp_left (List.mem_cons_of_mem _))) r⟩
  | .ot l, v, B, n, k, h => by
    simp only [Vd] at h ⊢
    simp only [OD.noAl] at n
    obtain ⟨a, xs, e, s, r⟩ := h
    exact ⟨a, xs, e, Kp.rdT (Z := fun a => Z a) (fun a o e c => k a o e (c.imp_right .inr)) s, VdL.mono (B := B) i n k r⟩
  | .al l, v, B, n, k, h => by simp [OD.noAl] at n
theorem VdL.mono {B : List Addr} (i : ∀ a, Z a → Z' a) : ∀ {d : List OD} {v : List V} {B : List Addr}, noAlL d = true → (∀ a o, H a = some o → (Z a ∨ a ∈ B ∨ notLst o) → H' a = some o) → VdL T Z H d v B → VdL T Z' H' d v B
  | [], v, B, n, k, h => by simpa only [VdL] using h
  | d :: ds, v, B, n, k, h => by
    simp only [VdL] at h ⊢
    simp only [noAlL, Bool.and_eq_true] at n
    obtain ⟨x, r, B1, B2, e, b, s, q⟩ := h
    subst b
    exact ⟨x, r, B1, B2, e, rfl, Vd.mono (B := B1) i n.1 (fun a o e c => k a o e (c.imp_right fun c => c.imp_left (List.mem_append_left _))) s,
      VdL.mono (B := B1) i n.2 (fun a o e c => k a o e (c.imp_right fun c => c.imp_left (List.mem_append_right _))) q⟩
end
mutual
theorem Vd.same (i : ∀ a, Z a → Z' a) (k : Same H H') : ∀ {d : OD} {v : V} {B : List Addr}, Vd T Z H d v B → Vd T Z' H' d v B
  | .pl p, v, B, h => by
    simp only [Vd] at h ⊢
    exact ⟨h.1, Vw.mono (Same.kp k _) i h.2⟩
  | .ol l, v, B, h => by
    simp only [Vd] at h ⊢
    obtain ⟨a, xs, B', e, b, s, r⟩ := h
    exact ⟨a, xs, B', e, b, k _ _ s, VdL.same i k r⟩
  | .ot l, v, B, h => by
    simp only [Vd] at h ⊢
    obtain ⟨a, xs, e, s, r⟩ := h
    exact ⟨a, xs, e, Same.rd k s, VdL.same i k r⟩
  | .al l, v, B, h => by
    simp only [Vd] at h ⊢
    obtain ⟨a, xs, e, s, r⟩ := h
    exact ⟨a, xs, e, Same.rd k s, VdL.same i k r⟩
theorem VdL.same (i : ∀ a, Z a → Z' a) (k : Same H H') : ∀ {d : List OD} {v : List V} {B : List Addr}, VdL T Z H d v B → VdL T Z' H' d v B
  | [], v, B, h => by simpa only [VdL] using h
  | d :: ds, v, B, h => by
    simp only [VdL] at h ⊢
    obtain ⟨x, r, B1, B2, e, b, s, q⟩ := h
    exact ⟨x, r, B1, B2, e, b, Vd.same i k s, VdL.same i k q⟩
end
mutual
/-- what a name holds alone are lists -/
theorem Vd.foot : ∀ {d : OD} {v : V} {B : List Addr}, Vd T Z H d v B → ∀ a ∈ B, ∃ xs, H a = some (.lst xs)
  | .pl p, v, B, h, a, ha => by
    simp only [Vd] at h
    rw [h.1] at ha; cases ha
  | .ol l, v, B, h, a, ha => by
    simp only [Vd] at h
    obtain ⟨a', xs, B', e, b, s, r⟩ := h
    subst b
    rcases List.mem_cons.mp ha with rfl | ha
    · exact ⟨xs, s⟩
    · exact VdL.foot r a ha
  | .ot l, v, B, h, a, ha => by
    simp only [Vd] at h
    obtain ⟨a', xs, e, s, r⟩ := h
    exact VdL.foot r a ha
  | .al l, v, B, h, a, ha => by
    simp only [Vd] at h
    obtain ⟨a', xs, e, s, r⟩ := h
    exact VdL.foot r a ha
theorem VdL.foot : ∀ {d : List OD} {v : List V} {B : List Addr}, VdL T Z H d v B → ∀ a ∈ B, ∃ xs, H a = some (.lst xs)
  | [], v, B, h, a, ha => by
    simp only [VdL] at h
    rw [h.2] at ha; cases ha
  | d :: ds, v, B, h, a, ha => by
    simp only [VdL] at h
    obtain ⟨x, r, B1, B2, e, b, s, q⟩ := h
    subst b
    rcases List.mem_append.mp ha with ha | ha
    · exact Vd.foot s a ha
    · exact VdL.foot q a ha
end
mutual
/-- frozen, it is plain data -/
theorem Vd.frz : ∀ {d : OD} {v : V} {B : List Addr}, d.noAl = true → Vd T Z H d v B → Vw T (fun a => Z a ∨ a ∈ B) H d.toP v
  | .pl p, v, B, n, h => by
    simp only [Vd] at h
    simp only [OD.toP]
    exact Vw.mono (fun a o e _ => e) (fun a => .inl) h.2
  | .ol l, v, B, n, h => by
    simp only [Vd] at h
    simp only [OD.noAl] at n
    obtain ⟨a, xs, B', e, b, s, r⟩ := h
    subst b
    simp only [OD.toP, Vw]
    exact ⟨a, xs, e, Rd.of s, .inr List.mem_cons_self, VwL.mono (fun a o e _ => e) (fun a c => c.imp_right (List.mem_cons_of_mem _)) (VdL.frz n r)⟩
  | .ot l, v, B, n, h => by
    simp only [Vd] at h
    simp only [OD.noAl] at n
    obtain ⟨a, xs, e, s, r⟩ := h
    simp only [OD.toP, Vw]
    exact ⟨a, xs, e, s, VdL.frz n r⟩
  | .al l, v, B, n, h => by simp [OD.noAl] at n
theorem VdL.frz : ∀ {d : List OD} {v : List V} {B : List Addr}, noAlL d = true → VdL T Z H d v B → VwL T (fun a => Z a ∨ a ∈ B) H (toPL d) v
  | [], v, B, n, h => by
    simp only [VdL] at h
    simp only [toPL, VwL]
    exact h.1
  | d :: ds, v, B, n, h => by
    simp only [VdL] at h
    simp only [noAlL, Bool.and_eq_true] at n
    obtain ⟨x, r, B1, B2, e, b, s, q⟩ := h
    subst b
    simp only [toPL, VwL]
    exact ⟨x, r, e, Vw.mono (fun a o e _ => e) (fun a c => c.imp_right (List.mem_append_left _)) (Vd.frz n.1 s), VwL.mono (fun a o e _ => e) (fun a c => c.imp_right (List.mem_append_right _)) (VdL.frz n.2 q)⟩
end
mutual
/-- seen as a whole, whoever holds it -/
theorem Vd.all : ∀ {d : OD} {v : V} {B : List Addr}, Vd T Z H d v B → Vw T (fun _ => True) H d.toP v
  | .pl p, v, B, h => by
    simp only [Vd] at h
    simp only [OD.toP]
    exact Vw.mono (fun a o e _ => e) (fun a _ => trivial) h.2
  | .ol l, v, B, h => by
    simp only [Vd] at h
    obtain ⟨a, xs, B', e, b, s, r⟩ := h
    simp only [OD.toP, Vw]
    exact ⟨a, xs, e, Rd.of s, trivial, VdL.all r⟩
  | .ot l, v, B, h => by
    simp only [Vd] at h
    obtain ⟨a, xs, e, s, r⟩ := h
    simp only [OD.toP, Vw]
    exact ⟨a, xs, e, s, VdL.all r⟩
  | .al l, v, B, h => by
    simp only [Vd] at h
    obtain ⟨a, xs, e, s, r⟩ := h
    simp only [OD.toP, Vw]
    exact ⟨a, xs, e, s, trivial, VdL.all r⟩
theorem VdL.all : ∀ {d : List OD} {v : List V} {B : List Addr}, VdL T Z H d v B → VwL T (fun _ => True) H (toPL d) v
  | [], v, B, h => by
    simp only [VdL] at h
    simp only [toPL, VwL]
    exact h.1
  | d :: ds, v, B, h => by
    simp only [VdL] at h
    obtain ⟨x, r, B1, B2, e, b, s, q⟩ := h
    simp only [toPL, VwL]
    exact ⟨x, r, e, Vd.all s, VdL.all q⟩
end
mutual
theorem Vd.vw : ∀ {d : OD} {v : V} {B : List Addr}, Vd T Z H d v B → Vd T Z H d.vw v []
  | .pl p, v, B, h => by
    simp only [OD.vw, Vd] at h ⊢
    exact ⟨trivial, h.2⟩
  | .ol l, v, B, h => by
    simp only [OD.vw, Vd] at h ⊢
    obtain ⟨a, xs, B', e, b, s, r⟩ := h
    exact ⟨a, xs, e, Rd.of s, VdL.vw r⟩
  | .ot l, v, B, h => by
    simp only [OD.vw, Vd] at h ⊢
    obtain ⟨a, xs, e, s, r⟩ := h
    exact ⟨a, xs, e, s, VdL.vw r⟩
  | .al l, v, B, h => by
    simp only [OD.vw, Vd] at h ⊢
    obtain ⟨a, xs, e, s, r⟩ := h
    exact ⟨a, xs, e, s, VdL.vw r⟩
theorem VdL.vw : ∀ {d : List OD} {v : List V} {B : List Addr}, VdL T Z H d v B → VdL T Z H (vwL d) v []
  | [], v, B, h => by
    simp only [vwL, VdL] at h ⊢
    exact ⟨h.1, trivial⟩
  | d :: ds, v, B, h => by
    simp only [vwL, VdL] at h ⊢
    obtain ⟨x, r, B1, B2, e, b, s, q⟩ := h
    exact ⟨x, r, [], [], e, rfl, Vd.vw s, VdL.vw q⟩
end
mutual
theorem Vw.flat : ∀ {p : PD} {v : V}, p.flat = true → Vw T Z H p v → Vw T Z' H p v
  | .non, v, f, h => by simpa only [Vw] using h
  | .bl _, v, f, h => by simpa only [Vw] using h
  | .int _, v, f, h => by simpa only [Vw] using h
  | .str _, v, f, h => by simpa only [Vw] using h
  | .fn _, v, f, h => by simpa only [Vw] using h
  | .lst l, v, f, h => by simp [PD.flat] at f
  | .tup l, v, f, h => by
    simp only [Vw] at h ⊢
    simp only [PD.flat] at f
    obtain ⟨a, xs, e, s, r⟩ := h
    exact ⟨a, xs, e, s, VwL.flat f r⟩
  | .xc n p, v, f, h => by
    simp only [Vw] at h ⊢
    simp only [PD.flat] at f
    obtain ⟨a, d, w, e, s, q, r⟩ := h
    exact ⟨a, d, w, e, s, q, Vw.flat f r⟩
theorem VwL.flat : ∀ {p : List PD} {v : List V}, flatL p = true → VwL T Z H p v → VwL T Z' H p v
  | [], v, f, h => by simpa only [VwL] using h
  | p :: ps, v, f, h => by
    simp only [VwL] at h ⊢
    simp only [flatL, Bool.and_eq_true] at f
    obtain ⟨x, r, e, s, q⟩ := h
    exact ⟨x, r, e, Vw.flat f.1 s, VwL.flat f.2 q⟩
end
mutual
/-- no errors within -/
def PD.noX : PD → Bool
  | .xc _ _ => false
  | .lst l => noXL l
  | .tup l => noXL l
  | _ => true
def noXL : List PD → Bool
  | [] => true
  | p :: ps => p.noX && noXL ps
end
mutual
theorem Vw.al : ∀ {p : PD} {v : V}, p.noX = true → Vw T Z' H p v → Vd T Z H p.al v []
  | .non, v, n, h => by simp only [PD.al, Vd]; exact ⟨trivial, by simpa only [Vw] using h⟩
  | .bl _, v, n, h => by simp only [PD.al, Vd]; exact ⟨trivial, by simpa only [Vw] using h⟩
  | .int _, v, n, h => by simp only [PD.al, Vd]; exact ⟨trivial, by simpa only [Vw] using h⟩
  | .str _, v, n, h => by simp only [PD.al, Vd]; exact ⟨trivial, by simpa only [Vw] using h⟩
  | .fn _, v, n, h => by simp only [PD.al, Vd]; exact ⟨trivial, by simpa only [Vw] using h⟩
  | .lst l, v, n, h => by
    simp only [PD.al, Vd, Vw, PD.noX] at h n ⊢
    obtain ⟨a, xs, e, s, z, r⟩ := h
    exact ⟨a, xs, e, s, VwL.al n r⟩
  | .tup l, v, n, h => by
    simp only [PD.al, Vd, Vw, PD.noX] at h n ⊢
    obtain ⟨a, xs, e, s, r⟩ := h
    exact ⟨a, xs, e, s, VwL.al n r⟩
  | .xc k p, v, n, h => by simp [PD.noX] at n
theorem VwL.al : ∀ {p : List PD} {v : List V}, noXL p = true → VwL T Z' H p v → VdL T Z H (alL p) v []
  | [], v, n, h => by
    simp only [alL, VdL, VwL] at h ⊢
    exact ⟨h, trivial⟩
  | p :: ps, v, n, h => by
    simp only [alL, VdL, VwL, noXL, Bool.and_eq_true] at h n ⊢
    obtain ⟨x, r, e, s, q⟩ := h
    exact ⟨x, r, [], [], e, rfl, Vw.al n.1 s, VwL.al n.2 q⟩
end
/-! ## the state of a def: the names' data ρ over the slots σ; F i: the lists that the name i alone holds -/
abbrev En := List (Option OD)
/-- what is frozen is there -/
def Zx (Z : Addr → Prop) (H : Hp) : Prop := ∀ a, Z a → ∃ o, H a = some o
structure Ev (T : Tb) (Z : Addr → Prop) (H : Hp) (ρ : En) (σ : L2.St) (F : Nat → List Addr) : Prop where
  at_ : ∀ (i : Nat) (d : OD), ρ[i]? = some (some d) → ∃ v, σ[i]? = some (some v) ∧ Vd T Z H d v (F i)
  no : ∀ (i : Nat) (a : Addr), a ∈ F i → ∃ d, ρ[i]? = some (some d)
  nd : ∀ (i : Nat), (F i).Nodup
  dj : ∀ (i j : Nat) (a : Addr), a ∈ F i → a ∈ F j → i = j
  nz : ∀ (i : Nat) (a : Addr), a ∈ F i → ¬ Z a
  ln : ρ.length = σ.length
  zx : Zx Z H
def NoA (ρ : En) : Prop := ∀ (i : Nat) (d : OD), ρ[i]? = some (some d) → d.noAl = true
/-- one step on: Z: what is frozen; B: what the new value alone holds -/
structure Nx (T : Tb) (Z : Addr → Prop) (H : Hp) (F : Nat → List Addr) (Z' : Addr → Prop) (H' : Hp) (ρ' : En) (σ' : L2.St) (F' : Nat → List Addr) (B : List Addr) : Prop where
  keep : ∀ a o, H a = some o → (∀ i, a ∉ F i) → H' a = some o
  dom : ∀ a, H' a = none → H a = none
  up : ∀ a, Z a → Z' a
  dn : ∀ a, Z' a → Z a ∨ (∃ i, a ∈ F i) ∨ H a = none
  own : ∀ a, (a ∈ B ∨ ∃ i, a ∈ F' i) → (∃ i, a ∈ F i) ∨ H a = none
  ev : Ev T Z' H' ρ' σ' F'
  na : NoA ρ'
  nd : B.Nodup
  nz : ∀ a ∈ B, ¬ Z' a
  dj : ∀ a ∈ B, ∀ i, a ∉ F' i
/-- a step that writes nothing that stood -/
structure Ny (T : Tb) (Z : Addr → Prop) (H : Hp) (B0 : List Addr) (Z' : Addr → Prop) (H' : Hp) (d : OD) (v : V) (B : List Addr) : Prop where
  same : Same H H'
  up : ∀ a, Z a → Z' a
  dn : ∀ a, Z' a → Z a ∨ a ∈ B0 ∨ H a = none
  fr : ∀ a ∈ B, a ∈ B0 ∨ H a = none
  nd : B.Nodup
  nz : ∀ a ∈ B, ¬ Z' a
  vd : Vd T Z' H' d v B
  zx : Zx Z' H'

section
variable {ρ ρ' ρ1 : En} {σ σ' σ1 : L2.St} {F F' F1 : Nat → List Addr} {Z1 : Addr → Prop} {H1 : Hp} {B B' B1 B0 : List Addr} {d d1 : OD} {v v1 : V}
theorem Ev.foot (E : Ev T Z H ρ σ F) {i : Nat} {a : Addr} (h : a ∈ F i) : ∃ xs, H a = some (.lst xs) := by
  obtain ⟨d, e⟩ := E.no i a h
  obtain ⟨v, _, q⟩ := E.at_ i d e
  exact q.foot a h
theorem Ev.notF (E : Ev T Z H ρ σ F) {a : Addr} {o : HO} (h : H a = some o) (n : Z a ∨ notLst o) : ∀ i, a ∉ F i := fun i m => by
  rcases n with n | n
  · exact E.nz i a m n
  · obtain ⟨xs, e⟩ := E.foot m
    rw [h] at e; cases e
    exact n
/-- under a step that writes nothing, the state stands -/
theorem Ev.same (E : Ev T Z H ρ σ F) (s : Same H H') (up : ∀ a, Z a → Z' a) (dn : ∀ a, Z' a → Z a ∨ (∀ i, a ∉ F i)) (zx : Zx Z' H') : Ev T Z' H' ρ σ F where
  at_ := fun i d e => let ⟨v, e1, q⟩ := E.at_ i d e; ⟨v, e1, q.same up s⟩
  no := E.no
  nd := E.nd
  dj := E.dj
  nz := fun i a h z => (dn a z).elim (E.nz i a h) fun n => n i h
  ln := E.ln
  zx := zx
theorem Ny.ev (n : Ny T Z H B0 Z' H' d v B) (E : Ev T Z H ρ σ F) (h0 : ∀ a ∈ B0, ∀ i, a ∉ F i) : Ev T Z' H' ρ σ F :=
  E.same n.same n.up (fun a z => by
    rcases n.dn a z with z | z | z
    · exact .inl z
    · exact .inr (h0 a z)
    · exact .inr fun i m => by
        obtain ⟨xs, e⟩ := E.foot m
        rw [z] at e; cases e) n.zx
theorem Ny.refl (zx : Zx Z H) (nd : B.Nodup) (nz : ∀ a ∈ B, ¬ Z a) (h : Vd T Z H d v B) : Ny T Z H B Z H d v B :=
  ⟨fun _ _ e => e, fun _ z => z, fun _ z => .inl z, fun _ m => .inl m, nd, nz, h, zx⟩
/-- a flat answer -/
theorem Ny.flat {p : PD} (zx : Zx Z H) (h : Vw T Z H p v) : Ny T Z H B0 Z H (.pl p) v [] :=
  ⟨fun _ _ e => e, fun _ z => z, fun _ z => .inl z, fun _ m => (nomatch m), List.nodup_nil, fun _ m => (nomatch m), by simp only [Vd]; exact ⟨trivial, h⟩, zx⟩
theorem Ny.tr (n : Ny T Z H B0 Z1 H1 d1 v1 B1) (m : Ny T Z1 H1 B1 Z' H' d v B) : Ny T Z H B0 Z' H' d v B where
  same := n.same.trans m.same
  up := fun a z => m.up a (n.up a z)
  dn := fun a z => by
    rcases m.dn a z with z | z | z
    · exact n.dn a z
    · exact .inr (n.fr a z)
    · exact .inr (.inr (n.same.free z))
  fr := fun a h => by
    rcases m.fr a h with z | z
    · exact n.fr a z
    · exact .inr (n.same.free z)
  nd := m.nd
  nz := m.nz
  vd := m.vd
  zx := m.zx
theorem Nx.kp (n : Nx T Z H F Z' H' ρ' σ' F' B) (E : Ev T Z H ρ σ F) : Kp Z H H' := fun a o e c => n.keep a o e (E.notF e c)
theorem Nx.tr (E : Ev T Z H ρ σ F) (n : Nx T Z H F Z1 H1 ρ1 σ1 F1 B1) (m : Nx T Z1 H1 F1 Z' H' ρ' σ' F' B) : Nx T Z H F Z' H' ρ' σ' F' B where
  keep := fun a o e c => m.keep a o (n.keep a o e c) fun i h => by
    rcases n.own a (.inr ⟨i, h⟩) with ⟨j, z⟩ | z
    · exact c j z
    · rw [e] at z; cases z
  dom := fun a e => n.dom a (m.dom a e)
  up := fun a z => m.up a (n.up a z)
  dn := fun a z => by
    rcases m.dn a z with z | ⟨i, z⟩ | z
    · exact n.dn a z
    · exact .inr (n.own a (.inr ⟨i, z⟩))
    · exact .inr (.inr (n.dom a z))
  own := fun a h => by
    rcases m.own a h with ⟨i, z⟩ | z
    · exact n.own a (.inr ⟨i, z⟩)
    · exact .inr (n.dom a z)
  ev := m.ev
  na := m.na
  nd := m.nd
  nz := m.nz
  dj := m.dj
/-- the value that came before stands behind a second step -/
theorem Nx.behind (E : Ev T Z H ρ σ F) (n : Nx T Z H F Z1 H1 ρ1 σ1 F1 B1) (h : Vd T Z1 H1 d1 v1 B1) (na : d1.noAl = true) (m : Nx T Z1 H1 F1 Z' H' ρ' σ' F' B) :
    Vd T Z' H' d1 v1 B1 ∧ Nx T Z H F Z' H' ρ' σ' F' (B1 ++ B) := by
  have fo := h.foot
  have st : ∀ a ∈ B1, ∀ i, a ∉ F1 i := n.dj
  have q : Vd T Z' H' d1 v1 B1 := Vd.mono (B := B1) m.up na (fun a o e c => by
    refine m.keep a o e ?_
    rcases c with c | c | c
    · exact n.ev.notF e (.inl c)
    · exact st a c
    · exact n.ev.notF e (.inr c)) h
  have t := Nx.tr E n m
  refine ⟨q, ⟨t.keep, t.dom, t.up, t.dn, fun a h => ?_, t.ev, t.na, ?_, fun a h => ?_, fun a h i => ?_⟩⟩
  · rcases h with h | h
    · rcases List.mem_append.mp h with h | h
      · exact n.own a (.inl h)
      · exact t.own a (.inl h)
    · exact t.own a (.inr h)
  · refine List.nodup_append.mpr ⟨n.nd, m.nd, fun a ha b hb e => ?_⟩
    subst e
    rcases m.own a (.inl hb) with ⟨i, z⟩ | z
    · exact st a ha i z
    · obtain ⟨xs, e⟩ := fo a ha
      rw [z] at e; cases e
  · rcases List.mem_append.mp h with h | h
    · intro z
      rcases m.dn a z with z | ⟨i, z⟩ | z
      · exact n.nz a h z
      · exact st a h i z
      · obtain ⟨xs, e⟩ := fo a h
        rw [z] at e; cases e
    · exact m.nz a h
  · rcases List.mem_append.mp h with h | h
    · intro z
      rcases m.own a (.inr ⟨i, z⟩) with ⟨j, z⟩ | z
      · exact st a h j z
      · obtain ⟨xs, e⟩ := fo a h
        rw [z] at e; cases e
    · exact m.dj a h i
theorem Nx.refl (E : Ev T Z H ρ σ F) (na : NoA ρ) : Nx T Z H F Z H ρ σ F [] :=
  ⟨fun _ _ e _ => e, fun _ e => e, fun _ z => z, fun _ z => .inl z, fun a h => h.elim (fun h => (nomatch h)) .inl, E, na, List.nodup_nil, fun _ h => (nomatch h), fun _ h => (nomatch h)⟩
/-- a step that writes nothing, behind a step -/
theorem Ny.nx (E : Ev T Z H ρ σ F) (n : Nx T Z H F Z1 H1 ρ1 σ1 F1 B1) (fo : ∀ a ∈ B1, ∃ xs, H1 a = some (.lst xs)) (m : Ny T Z1 H1 B1 Z' H' d v B) : Nx T Z H F Z' H' ρ1 σ1 F1 B where
  keep := fun a o e c => m.same a o (n.keep a o e c)
  dom := fun a e => n.dom a (m.same.free e)
  up := fun a z => m.up a (n.up a z)
  dn := fun a z => by
    rcases m.dn a z with z | z | z
    · exact n.dn a z
    · exact .inr (n.own a (.inl z))
    · exact .inr (.inr (n.dom a z))
  own := fun a h => by
    rcases h with h | h
    · rcases m.fr a h with z | z
      · exact n.own a (.inl z)
      · exact .inr (n.dom a z)
    · exact n.own a (.inr h)
  ev := m.ev n.ev n.dj
  na := n.na
  nd := m.nd
  nz := m.nz
  dj := fun a h i => by
    rcases m.fr a h with z | z
    · exact n.dj a z i
    · intro q
      obtain ⟨xs, e⟩ := n.ev.foot q
      rw [z] at e; cases e
end
end Rq
end

section
set_option Elab.async false
set_option linter.all false
set_option maxRecDepth 100000
set_option maxHeartbeats 1000000
namespace Rq
open PySem PySem.Spec PyProof.Rows L2

/-! ## what an expression, a statement gives -/
inductive Rs where
  | ok (d : OD) (ρ : En) | ex (k : Nat) (p : PD) (ρ : En) | st
inductive Fl where
  | nx (ρ : En) | rt (d : OD) (ρ : En) | bk (ρ : En) | ct (ρ : En) | ex (k : Nat) (p : PD) (ρ : En) | st
abbrev VM := En → Option OD
abbrev EM := En → Rs
abbrev SM := En → Fl
/-- an error of the class k that bears p -/
def Exq (T : Tb) (Z : Addr → Prop) (H : Hp) (k : Nat) (p : PD) (c : Value) (d : Option Addr) : Prop :=
  c = T.cls k ∧ ∃ dd w, d = some dd ∧ H dd = some (.xd [(("value" : Str), w)]) ∧ Vw T Z H p w
/-- a pure expression -/
def tV (T : Tb) (m : VM) : TE := fun σ H Q => ∃ Z F ρ d, Ev T Z H ρ σ F ∧ m ρ = some d ∧ ∀ v Z' H' B, Ny T Z H [] Z' H' d v B → Q v H'
/-- an expression that may change what names hold alone, and may raise -/
def tE (T : Tb) (W : WX) (m : EM) : TE := fun σ H Q => ∃ Z F ρ, Ev T Z H ρ σ F ∧ NoA ρ ∧ match m ρ with
  | .ok d ρ' => ∀ v Z' H' F' B, Nx T Z H F Z' H' ρ' σ F' B → Vd T Z' H' d v B → d.noAl = true → Q v H'
  | .ex k p ρ' => ∀ c dd Z' H' F', Nx T Z H F Z' H' ρ' σ F' [] → Exq T Z' H' k p c dd → W c dd σ H'
  | .st => False
def KpS (ln : List Nat) (σ σ' : L2.St) : Prop := ∀ i ∈ ln, σ'[i]? = σ[i]?
/-- a statement: ln: the names that stay bound as they are -/
def tS (T : Tb) (W : WX) (ln : List Nat) (m : SM) : TS := fun D σ H => ∃ Z F ρ, Ev T Z H ρ σ F ∧ NoA ρ ∧ match m ρ with
  | .nx ρ' => ∀ σ' Z' H' F', Nx T Z H F Z' H' ρ' σ' F' [] → KpS ln σ σ' → D.nx σ' H'
  | .bk ρ' => ∀ σ' Z' H' F', Nx T Z H F Z' H' ρ' σ' F' [] → KpS ln σ σ' → D.bk σ' H'
  | .ct ρ' => ∀ σ' Z' H' F', Nx T Z H F Z' H' ρ' σ' F' [] → KpS ln σ σ' → D.ct σ' H'
  | .rt d ρ' => ∀ σ' v Z' H' F' B, Nx T Z H F Z' H' ρ' σ' F' B → Vd T Z' H' d v B → d.noAl = true → KpS ln σ σ' → D.rt v H'
  | .ex k p ρ' => ∀ σ' c dd Z' H' F', Nx T Z H F Z' H' ρ' σ' F' [] → Exq T Z' H' k p c dd → KpS ln σ σ' → W c dd σ' H'
  | .st => False
theorem KpS.refl {ln : List Nat} {σ : L2.St} : KpS ln σ σ := fun _ _ => rfl
theorem KpS.tr {ln : List Nat} {σ σ1 σ2 : L2.St} (a : KpS ln σ σ1) (b : KpS ln σ1 σ2) : KpS ln σ σ2 := fun i h => (b i h).trans (a i h)

section
variable {X : Cx} {T : Tb} {W : WX}
theorem pe_imp {e : Expr} {t t' : TE} (h : PE X e t) (i : ∀ σ H Q, t' σ H Q → t σ H Q) : PE X e t' := ⟨fun pins s σ H Q I q => h.run pins s σ H Q I (i σ H Q q)⟩
theorem pt_imp {e : Expr} {t t' : TT} (h : PT X e t) (i : ∀ σ H Q, t' σ H Q → t σ H Q) : PT X e t' := ⟨fun pins s σ H Q I q => h.run pins s σ H Q I (i σ H Q q)⟩
theorem ps_imp {e : Stmt} {t t' : TS} (h : PS X e t) (i : ∀ D σ H, t' D σ H → t D σ H) : PS X e t' := ⟨fun pins s σ H D I q => h.run pins s σ H D I (i D σ H q)⟩
theorem pss_imp {e : List Stmt} {t t' : TS} (h : PSs X e t) (i : ∀ D σ H, t' D σ H → t D σ H) : PSs X e t' := ⟨fun pins s σ H D I q => h.run pins s σ H D I (i D σ H q)⟩

/-! ## from one to the other -/
/-- a pure expression as one that may change things; its value is no view -/
def eV (m : VM) : EM := fun ρ => match m ρ with
  | some d => if d.noAl = true then .ok d ρ else .st
  | none => .st
theorem Ny.toNx {Z Z' : Addr → Prop} {H H' : Hp} {F : Nat → List Addr} {ρ : En} {σ : L2.St} {d : OD} {v : V} {B : List Addr} (E : Ev T Z H ρ σ F) (na : NoA ρ) (n : Ny T Z H [] Z' H' d v B) : Nx T Z H F Z' H' ρ σ F B :=
  Ny.nx E (Nx.refl E na) (fun _ h => (nomatch h)) n
theorem pe_eV {e : Expr} {m : VM} (h : PE X e (tV T m)) : PE X e (tE T W (eV m)) := pe_imp h fun σ H Q q => by
  obtain ⟨Z, F, ρ, E, na, q⟩ := q
  unfold eV at q
  cases e1 : m ρ with
  | none => rw [e1] at q; exact q.elim
  | some d =>
    rw [e1] at q
    dsimp only at q
    by_cases c : d.noAl = true
    · rw [if_pos c] at q
      exact ⟨Z, F, ρ, d, E, e1, fun v Z' H' B n => q v Z' H' F B (Ny.toNx E na n) n.vd c⟩
    · rw [if_neg c] at q
      exact q.elim
/-- .. frozen -/
def eF (m : EM) : EM := fun ρ => match m ρ with
  | .ok d ρ' => .ok (.pl d.toP) ρ'
  | r => r
theorem Ny.frz {Z : Addr → Prop} {H : Hp} {d : OD} {v : V} {B : List Addr} (zx : Zx Z H) (h : Vd T Z H d v B) (n : d.noAl = true) : Ny T Z H B (fun a => Z a ∨ a ∈ B) H (.pl d.toP) v [] :=
  ⟨fun _ _ e => e, fun _ z => .inl z, fun _ z => z.imp_right .inl, fun _ m => (nomatch m), List.nodup_nil, fun _ m => (nomatch m), by simp only [Vd]; exact ⟨trivial, h.frz n⟩, fun a z => z.elim (zx a) fun m => let ⟨xs, e⟩ := h.foot a m; ⟨_, e⟩⟩
theorem pe_eF {e : Expr} {m : EM} (h : PE X e (tE T W m)) : PE X e (tE T W (eF m)) := pe_imp h fun σ H Q q => by
  obtain ⟨Z, F, ρ, E, na, q⟩ := q
  refine ⟨Z, F, ρ, E, na, ?_⟩
  unfold eF at q
  cases e1 : m ρ with
  | st => rw [e1] at q; exact q.elim
  | ex k p ρ' => rw [e1] at q; exact q
  | ok d ρ' =>
    rw [e1] at q
    intro v Z' H' F' B n hv nd
    have y := Ny.frz n.ev.zx hv nd
    exact q v _ H' F' [] (Ny.nx E n hv.foot y) y.vd rfl
/-- as a view: a pure expression whose value may be a view is asked as such -/
def vF (m : VM) : VM := fun ρ => (m ρ).bind fun d => if d.noAl = true then some (.pl d.toP) else none
theorem pe_vF {e : Expr} {m : VM} (h : PE X e (tV T m)) : PE X e (tV T (vF m)) := pe_imp h fun σ H Q q => by
  obtain ⟨Z, F, ρ, d, E, e1, q⟩ := q
  unfold vF at e1
  cases e2 : m ρ with
  | none => rw [e2] at e1; cases e1
  | some d1 =>
    rw [e2] at e1
    simp only [Option.bind_some] at e1
    by_cases c : d1.noAl = true
    · rw [if_pos c] at e1
      cases e1
      exact ⟨Z, F, ρ, d1, E, e2, fun v Z' H' B n => q v _ H' [] (n.tr (Ny.frz n.zx n.vd c))⟩
    · rw [if_neg c] at e1
      cases e1

/-! ## names, constants -/
def vVar (i : Nat) : VM := fun ρ => match ρ[i]? with
  | some (some d) => some d.vw
  | _ => none
theorem pv_var {i : Nat} {e : Expr} (h : PE X e (tVar i)) : PE X e (tV T (vVar i)) := pe_imp h fun σ H Q q => by
  obtain ⟨Z, F, ρ, d, E, e1, q⟩ := q
  unfold vVar at e1
  cases e2 : ρ[i]? with
  | none => rw [e2] at e1; cases e1
  | some o =>
    cases o with
    | none => rw [e2] at e1; cases e1
    | some d1 =>
      rw [e2] at e1
      cases e1
      obtain ⟨v, e3, r⟩ := E.at_ i d1 e2
      exact ⟨v, e3, q v Z H [] (Ny.refl E.zx List.nodup_nil (fun _ m => (nomatch m)) r.vw)⟩
def vC (p : PD) : VM := fun _ => some (.pl p)
theorem pv_c {e : Expr} {p : PD} {v : V} (h : PE X e (tC v)) (r : ∀ Z H, Vw T Z H p v) : PE X e (tV T (vC p)) := pe_imp h fun σ H Q q => by
  obtain ⟨Z, F, ρ, d, E, e1, q⟩ := q
  cases e1
  exact q v Z H [] (Ny.flat E.zx (r Z H))
theorem pv_int {i : Int} {j pos} : PE X (.Constant (.int i) j pos) (tV T (vC (.int i))) := pv_c pe_int fun Z H => by simp only [Vw]
theorem pv_bl {b : Bool} {j pos} : PE X (.Constant (.bool b) j pos) (tV T (vC (.bl b))) := pv_c pe_bl fun Z H => by simp only [Vw]
theorem pv_non {j pos} : PE X (.Constant .none j pos) (tV T (vC .non)) := pv_c pe_non fun Z H => by simp only [Vw]
theorem pv_str {x : Str} {j pos} : PE X (.Constant (.str x) j pos) (tV T (vC (.str x))) := pv_c pe_str fun Z H => by simp only [Vw]
/-- a def by its name -/
theorem pv_fn {x : Str} {j : Nat} {pos : Pos} (hg : Gl X x) (hm : X.mg x = some (.ref (T.adr j))) (hd : (x == ("__debug__" : Str)) = false := by decide) : PE X (.Name x pos) (tV T (vC (.fn j))) :=
  pv_c (v := .ref (T.adr j)) (pe_glob hg hm (by rfl) hd) fun Z H => by simp only [Vw]
/-- a number of the module -/
theorem pv_gint {x : Str} {i : Int} {pos : Pos} {u : Value} (hg : Gl X x) (hm : X.mg x = some u) (r : RelV (.int i) u) (hd : (x == ("__debug__" : Str)) = false := by decide) : PE X (.Name x pos) (tV T (vC (.int i))) :=
  pv_c (v := .int i) (pe_glob hg hm r hd) fun Z H => by simp only [Vw]

/-! ## an operation on two values -/
def Op2 (T : Tb) (r : R2) (f : OD → OD → Option OD) : Prop :=
  ∀ (Z : Addr → Prop) (H : Hp) (v1 v2 : V) (d1 d2 d : OD) (B1 B2 : List Addr) (Q : VK), Zx Z H → Vd T Z H d1 v1 B1 → Vd T Z H d2 v2 B2 → (B1 ++ B2).Nodup → (∀ a ∈ B1 ++ B2, ¬ Z a) → f d1 d2 = some d →
    (∀ v Z' H' B, Ny T Z H (B1 ++ B2) Z' H' d v B → (d1.noAl = true → d2.noAl = true → d.noAl = true) → Q v H') → r v1 v2 H Q
def v2 (f : OD → OD → Option OD) (a b : VM) : VM := fun ρ => (a ρ).bind fun x => (b ρ).bind fun y => f x y
theorem v2_some {f : OD → OD → Option OD} {a b : VM} {ρ : En} {d : OD} (h : v2 f a b ρ = some d) : ∃ x y, a ρ = some x ∧ b ρ = some y ∧ f x y = some d := by
  unfold v2 at h
  cases e1 : a ρ with
  | none => rw [e1] at h; cases h
  | some x =>
    rw [e1] at h
    simp only [Option.bind_some] at h
    cases e2 : b ρ with
    | none => rw [e2] at h; cases h
    | some y =>
      rw [e2] at h
      exact ⟨x, y, rfl, rfl, h⟩
/-- two pure values in a row -/
theorem two_V {Z Z1 Z2 : Addr → Prop} {H H1 H2 : Hp} {d1 d2 : OD} {v1 v2 : V} {B1 B2 : List Addr} (n : Ny T Z H [] Z1 H1 d1 v1 B1) (m : Ny T Z1 H1 [] Z2 H2 d2 v2 B2) :
    Vd T Z2 H2 d1 v1 B1 ∧ (B1 ++ B2).Nodup ∧ (∀ a ∈ B1 ++ B2, ¬ Z2 a) ∧ (∀ {d : OD} {v : V} {B : List Addr} {Z' : Addr → Prop} {H' : Hp}, Ny T Z2 H2 (B1 ++ B2) Z' H' d v B → Ny T Z H [] Z' H' d v B) := by
  have fo := n.vd.foot
  refine ⟨n.vd.same m.up m.same, ?_, fun a h => ?_, fun {d v B Z' H'} k => ?_⟩
  · refine List.nodup_append.mpr ⟨n.nd, m.nd, fun a ha b hb e => ?_⟩
    subst e
    rcases m.fr a hb with z | z
    · exact nomatch z
    · obtain ⟨xs, e⟩ := fo a ha
      rw [z] at e; cases e
  · rcases List.mem_append.mp h with h | h
    · intro z
      rcases m.dn a z with z | z | z
      · exact n.nz a h z
      · exact nomatch z
      · obtain ⟨xs, e⟩ := fo a h
        rw [z] at e; cases e
    · exact m.nz a h
  · have fr0 : ∀ a ∈ B1 ++ B2, H a = none := fun a h => by
      rcases List.mem_append.mp h with h | h
      · exact (n.fr a h).elim (fun z => (nomatch z)) id
      · exact n.same.free ((m.fr a h).elim (fun z => (nomatch z)) id)
    exact ⟨(n.same.trans m.same).trans k.same, fun a z => k.up a (m.up a (n.up a z)), fun a z => by
      rcases k.dn a z with z | z | z
      · rcases m.dn a z with z | z | z
        · exact n.dn a z
        · exact nomatch z
        · exact .inr (.inr (n.same.free z))
      · exact .inr (.inr (fr0 a z))
      · exact .inr (.inr ((n.same.trans m.same).free z)), fun a h => by
      rcases k.fr a h with z | z
      · exact .inr (fr0 a z)
      · exact .inr ((n.same.trans m.same).free z), k.nd, k.nz, k.vd, k.zx⟩
theorem t_V2 {r : R2} {f : OD → OD → Option OD} (ho : Op2 T r f) {a b : VM} {σ : L2.St} {H : Hp} {Q : VK} (h : tV T (v2 f a b) σ H Q) : tOp r (tV T a) (tV T b) σ H Q := by
  obtain ⟨Z, F, ρ, d, E, e1, q⟩ := h
  obtain ⟨x, y, ea, eb, ef⟩ := v2_some e1
  refine ⟨Z, F, ρ, x, E, ea, fun v1 Z1 H1 B1 n => ?_⟩
  have E1 := n.ev E (fun _ m => (nomatch m))
  refine ⟨Z1, F, ρ, y, E1, eb, fun v2 Z2 H2 B2 m => ?_⟩
  obtain ⟨h1, h2, h3, h4⟩ := two_V n m
  exact ho Z2 H2 v1 v2 x y d B1 B2 Q m.zx h1 m.vd h2 h3 ef fun v Z' H' B k _ => q v Z' H' B (h4 k)
theorem pv_bin {op : Operator} {r : R2} {f : OD → OD → Option OD} {a b : Expr} {ma mb : VM} {pos : Pos} (hr : OpR X (binaryOp op) r) (ho : Op2 T r f) (ha : PE X a (tV T ma)) (hb : PE X b (tV T mb)) : PE X (.BinOp a op b pos) (tV T (v2 f ma mb)) :=
  pe_imp (pe_op hr ha hb) fun _ _ _ q => t_V2 ho q
theorem pv_cmp {op : CmpOp} {r : R2} {f : OD → OD → Option OD} {a b : Expr} {ma mb : VM} {pos : Pos} (hr : OpR X (compareOp op) r) (ho : Op2 T r f) (ha : PE X a (tV T ma)) (hb : PE X b (tV T mb)) (hm : behindInMarks op b = false) : PE X (.Compare a [op] [b] pos) (tV T (v2 f ma mb)) :=
  pe_imp (pe_cmpR hr ha hb hm) fun _ _ _ q => t_V2 ho q
theorem ptv_cmp {op : CmpOp} {r : R2} {f : OD → OD → Option OD} {a b : Expr} {ma mb : VM} {pos : Pos} (hr : OpR X (compareOp op) r) (ho : Op2 T r f) (ha : PE X a (tV T ma)) (hb : PE X b (tV T mb)) (hm : behindInMarks op b = false) : PT X (.Compare a [op] [b] pos) (tB (tV T (v2 f ma mb))) :=
  pt_imp (pt_cmpR hr ha hb hm) fun _ _ _ q => t_V2 ho q
/-- .. that may change things: the second one's behind the first one's -/
def e2 (f : OD → OD → Option OD) (a b : EM) : EM := fun ρ => match a ρ with
  | .ok x ρ1 => match b ρ1 with
    | .ok y ρ2 => match f x y with
      | some d => .ok d ρ2
      | none => .st
    | r => r
  | r => r
theorem Nx.nil {Z Z' : Addr → Prop} {H H' : Hp} {F F' : Nat → List Addr} {ρ' : En} {σ' : L2.St} {B : List Addr} (n : Nx T Z H F Z' H' ρ' σ' F' B) : Nx T Z H F Z' H' ρ' σ' F' [] :=
  ⟨n.keep, n.dom, n.up, n.dn, fun a h => n.own a (.inr (h.elim (fun h => (nomatch h)) id)), n.ev, n.na, List.nodup_nil, fun _ h => (nomatch h), fun _ h => (nomatch h)⟩
theorem t_E2 {r : R2} {f : OD → OD → Option OD} (ho : Op2 T r f) {a b : EM} {σ : L2.St} {H : Hp} {Q : VK} (h : tE T W (e2 f a b) σ H Q) : tOp r (tE T W a) (tE T W b) σ H Q := by
  obtain ⟨Z, F, ρ, E, na, q⟩ := h
  refine ⟨Z, F, ρ, E, na, ?_⟩
  unfold e2 at q
  cases ea : a ρ with
  | st => rw [ea] at q; exact q
  | ex k p ρ' => rw [ea] at q; exact q
  | ok x ρ1 =>
    rw [ea] at q
    intro v1 Z1 H1 F1 B1 n h1 na1
    refine ⟨Z1, F1, ρ1, n.ev, n.na, ?_⟩
    simp only at q
    cases eb : b ρ1 with
    | st => rw [eb] at q; exact q
    | ex k p ρ' =>
      rw [eb] at q
      intro c dd Z' H' F' m hx
      exact q c dd Z' H' F' (Nx.tr E n m) hx
    | ok y ρ2 =>
      rw [eb] at q
      intro v2 Z2 H2 F2 B2 m h2 na2
      simp only at q
      obtain ⟨g1, g2⟩ := Nx.behind E n h1 na1 m
      cases ef : f x y with
      | none => rw [ef] at q; exact q.elim
      | some d =>
        rw [ef] at q
        refine ho Z2 H2 v1 v2 x y d B1 B2 Q g2.ev.zx g1 h2 g2.nd g2.nz ef fun v Z' H' B k nk => ?_
        have fo : ∀ a ∈ B1 ++ B2, ∃ xs, H2 a = some (.lst xs) := fun a h => (List.mem_append.mp h).elim (g1.foot a) (h2.foot a)
        exact q v Z' H' F2 B (Ny.nx E g2 fo k) k.vd (nk na1 na2)
theorem pe_bin {op : Operator} {r : R2} {f : OD → OD → Option OD} {a b : Expr} {ma mb : EM} {pos : Pos} (hr : OpR X (binaryOp op) r) (ho : Op2 T r f) (ha : PE X a (tE T W ma)) (hb : PE X b (tE T W mb)) : PE X (.BinOp a op b pos) (tE T W (e2 f ma mb)) :=
  pe_imp (pe_op hr ha hb) fun _ _ _ q => t_E2 ho q
theorem pe_cmpE {op : CmpOp} {r : R2} {f : OD → OD → Option OD} {a b : Expr} {ma mb : EM} {pos : Pos} (hr : OpR X (compareOp op) r) (ho : Op2 T r f) (ha : PE X a (tE T W ma)) (hb : PE X b (tE T W mb)) (hm : behindInMarks op b = false) : PE X (.Compare a [op] [b] pos) (tE T W (e2 f ma mb)) :=
  pe_imp (pe_cmpR hr ha hb hm) fun _ _ _ q => t_E2 ho q
theorem pte_cmp {op : CmpOp} {r : R2} {f : OD → OD → Option OD} {a b : Expr} {ma mb : EM} {pos : Pos} (hr : OpR X (compareOp op) r) (ho : Op2 T r f) (ha : PE X a (tE T W ma)) (hb : PE X b (tE T W mb)) (hm : behindInMarks op b = false) : PT X (.Compare a [op] [b] pos) (tB (tE T W (e2 f ma mb))) :=
  pt_imp (pt_cmpR hr ha hb hm) fun _ _ _ q => t_E2 ho q

/-! ## an operation on one value -/
def Op1 (T : Tb) (r : V → Hp → VK → Prop) (f : OD → Option OD) : Prop :=
  ∀ (Z : Addr → Prop) (H : Hp) (v1 : V) (d1 d : OD) (B1 : List Addr) (Q : VK), Zx Z H → Vd T Z H d1 v1 B1 → B1.Nodup → (∀ a ∈ B1, ¬ Z a) → f d1 = some d →
    (∀ v Z' H' B, Ny T Z H B1 Z' H' d v B → (d1.noAl = true → d.noAl = true) → Q v H') → r v1 H Q
def v1 (f : OD → Option OD) (a : VM) : VM := fun ρ => (a ρ).bind f
def e1 (f : OD → Option OD) (a : EM) : EM := fun ρ => match a ρ with
  | .ok x ρ1 => match f x with
    | some d => .ok d ρ1
    | none => .st
  | r => r
theorem t_V1 {r : V → Hp → VK → Prop} {f : OD → Option OD} (ho : Op1 T r f) {a : VM} {σ : L2.St} {H : Hp} {Q : VK} (h : tV T (v1 f a) σ H Q) : tUn r (tV T a) σ H Q := by
  obtain ⟨Z, F, ρ, d, E, e1, q⟩ := h
  unfold v1 at e1
  cases ea : a ρ with
  | none => rw [ea] at e1; cases e1
  | some x =>
    rw [ea] at e1
    exact ⟨Z, F, ρ, x, E, ea, fun v1 Z1 H1 B1 n => ho Z1 H1 v1 x d B1 Q n.zx n.vd n.nd n.nz e1 fun v Z' H' B k _ => q v Z' H' B (n.tr k)⟩
theorem t_E1 {r : V → Hp → VK → Prop} {f : OD → Option OD} (ho : Op1 T r f) {a : EM} {σ : L2.St} {H : Hp} {Q : VK} (h : tE T W (e1 f a) σ H Q) : tUn r (tE T W a) σ H Q := by
  obtain ⟨Z, F, ρ, E, na, q⟩ := h
  refine ⟨Z, F, ρ, E, na, ?_⟩
  unfold e1 at q
  cases ea : a ρ with
  | st => rw [ea] at q; exact q
  | ex k p ρ' => rw [ea] at q; exact q
  | ok x ρ1 =>
    rw [ea] at q
    intro v1 Z1 H1 F1 B1 n h1 na1
    simp only at q
    cases ef : f x with
    | none => rw [ef] at q; exact q.elim
    | some d =>
      rw [ef] at q
      refine ho Z1 H1 v1 x d B1 Q n.ev.zx h1 n.nd n.nz ef fun v Z' H' B k nk => ?_
      exact q v Z' H' F1 B (Ny.nx E n h1.foot k) k.vd (nk na1)
theorem pv_un {op : UnaryOp} {r : V → Hp → VK → Prop} {f : OD → Option OD} {a : Expr} {m : VM} {pos : Pos} (hr : UnR X (unaryOp op) r) (ho : Op1 T r f) (ha : PE X a (tV T m)) : PE X (.UnaryOp op a pos) (tV T (v1 f m)) :=
  pe_imp (pe_un hr ha) fun _ _ _ q => t_V1 ho q
theorem pe_unE {op : UnaryOp} {r : V → Hp → VK → Prop} {f : OD → Option OD} {a : Expr} {m : EM} {pos : Pos} (hr : UnR X (unaryOp op) r) (ho : Op1 T r f) (ha : PE X a (tE T W m)) : PE X (.UnaryOp op a pos) (tE T W (e1 f m)) :=
  pe_imp (pe_un hr ha) fun _ _ _ q => t_E1 ho q
end
end Rq
end

section
set_option Elab.async false
set_option linter.all false
set_option maxRecDepth 100000
set_option maxHeartbeats 1000000
namespace Rq
open PySem PySem.Spec PyProof.Rows L2

/-! ## what is wanted behind -/
def PostE (T : Tb) (W : WX) (Z : Addr → Prop) (H : Hp) (F : Nat → List Addr) (σ : L2.St) (Q : VK) : Rs → Prop
  | .ok d ρ' => ∀ v Z' H' F' B, Nx T Z H F Z' H' ρ' σ F' B → Vd T Z' H' d v B → d.noAl = true → Q v H'
  | .ex k p ρ' => ∀ c dd Z' H' F', Nx T Z H F Z' H' ρ' σ F' [] → Exq T Z' H' k p c dd → W c dd σ H'
  | .st => False
def PostS (T : Tb) (W : WX) (ln : List Nat) (D : Ends) (Z : Addr → Prop) (H : Hp) (F : Nat → List Addr) (σ : L2.St) : Fl → Prop
  | .nx ρ' => ∀ σ' Z' H' F', Nx T Z H F Z' H' ρ' σ' F' [] → KpS ln σ σ' → D.nx σ' H'
  | .bk ρ' => ∀ σ' Z' H' F', Nx T Z H F Z' H' ρ' σ' F' [] → KpS ln σ σ' → D.bk σ' H'
  | .ct ρ' => ∀ σ' Z' H' F', Nx T Z H F Z' H' ρ' σ' F' [] → KpS ln σ σ' → D.ct σ' H'
  | .rt d ρ' => ∀ σ' v Z' H' F' B, Nx T Z H F Z' H' ρ' σ' F' B → Vd T Z' H' d v B → d.noAl = true → KpS ln σ σ' → D.rt v H'
  | .ex k p ρ' => ∀ σ' c dd Z' H' F', Nx T Z H F Z' H' ρ' σ' F' [] → Exq T Z' H' k p c dd → KpS ln σ σ' → W c dd σ' H'
  | .st => False
section
variable {X : Cx} {T : Tb} {W : WX} {ln : List Nat} {D : Ends} {Z Z1 : Addr → Prop} {H H1 : Hp} {F F1 : Nat → List Addr} {σ σ1 : L2.St} {ρ ρ1 : En}
theorem tE_of {m : EM} {Q : VK} (E : Ev T Z H ρ σ F) (na : NoA ρ) (h : PostE T W Z H F σ Q (m ρ)) : tE T W m σ H Q := ⟨Z, F, ρ, E, na, by unfold PostE at h; exact h⟩
theorem of_tE {m : EM} {Q : VK} (h : tE T W m σ H Q) : ∃ Z F ρ, Ev T Z H ρ σ F ∧ NoA ρ ∧ PostE T W Z H F σ Q (m ρ) := by
  obtain ⟨Z, F, ρ, E, na, q⟩ := h
  exact ⟨Z, F, ρ, E, na, by unfold PostE; exact q⟩
theorem tS_of {m : SM} (E : Ev T Z H ρ σ F) (na : NoA ρ) (h : PostS T W ln D Z H F σ (m ρ)) : tS T W ln m D σ H := ⟨Z, F, ρ, E, na, by unfold PostS at h; exact h⟩
theorem of_tS {m : SM} (h : tS T W ln m D σ H) : ∃ Z F ρ, Ev T Z H ρ σ F ∧ NoA ρ ∧ PostS T W ln D Z H F σ (m ρ) := by
  obtain ⟨Z, F, ρ, E, na, q⟩ := h
  exact ⟨Z, F, ρ, E, na, by unfold PostS; exact q⟩
theorem PostE.tr {Q : VK} {B1 : List Addr} (E : Ev T Z H ρ σ F) (n : Nx T Z H F Z1 H1 ρ1 σ F1 B1) : ∀ {r : Rs}, PostE T W Z H F σ Q r → PostE T W Z1 H1 F1 σ Q r
  | .ok d ρ', q => fun v Z' H' F' B m => q v Z' H' F' B (Nx.tr E n m)
  | .ex k p ρ', q => fun c dd Z' H' F' m => q c dd Z' H' F' (Nx.tr E n m)
  | .st, q => q
theorem PostS.tr {B1 : List Addr} (E : Ev T Z H ρ σ F) (n : Nx T Z H F Z1 H1 ρ1 σ1 F1 B1) (k : KpS ln σ σ1) : ∀ {r : Fl}, PostS T W ln D Z H F σ r → PostS T W ln D Z1 H1 F1 σ1 r
  | .nx _, q => fun s Z' H' F' m kk => q s Z' H' F' (Nx.tr E n m) (k.tr kk)
  | .bk _, q => fun s Z' H' F' m kk => q s Z' H' F' (Nx.tr E n m) (k.tr kk)
  | .ct _, q => fun s Z' H' F' m kk => q s Z' H' F' (Nx.tr E n m) (k.tr kk)
  | .rt _ _, q => fun s v Z' H' F' B m h na kk => q s v Z' H' F' B (Nx.tr E n m) h na (k.tr kk)
  | .ex _ _ _, q => fun s c dd Z' H' F' m hx kk => q s c dd Z' H' F' (Nx.tr E n m) hx (k.tr kk)
  | .st, q => q

/-! ## a name is bound -/
def updF (F : Nat → List Addr) (i : Nat) (B : List Addr) : Nat → List Addr := fun j => if j = i then B else F j
theorem Ev.set {d : OD} {v : V} {B : List Addr} {i : Nat} (E : Ev T Z H ρ σ F) (hi : i < ρ.length) (h : Vd T Z H d v B) (nd : B.Nodup) (nz : ∀ a ∈ B, ¬ Z a) (dj : ∀ a ∈ B, ∀ j, a ∉ F j) :
    Ev T Z H (ρ.set i (some d)) (σ.set i (some v)) (updF F i B) where
  at_ := fun j d' e => by
    by_cases c : j = i
    · subst c
      rw [List.getElem?_set_self hi] at e
      cases e
      refine ⟨v, List.getElem?_set_self (E.ln ▸ hi), ?_⟩
      unfold updF; rw [if_pos rfl]; exact h
    · rw [List.getElem?_set_ne (Ne.symm c)] at e
      obtain ⟨v', e1, q⟩ := E.at_ j d' e
      refine ⟨v', by rw [List.getElem?_set_ne (Ne.symm c)]; exact e1, ?_⟩
      unfold updF; rw [if_neg c]; exact q
  no := fun j a m => by
    unfold updF at m
    by_cases c : j = i
    · subst c
      exact ⟨d, List.getElem?_set_self hi⟩
    · rw [if_neg c] at m
      obtain ⟨d', e⟩ := E.no j a m
      exact ⟨d', by rw [List.getElem?_set_ne (Ne.symm c)]; exact e⟩
  nd := fun j => by
    unfold updF
    by_cases c : j = i
    · rw [if_pos c]; exact nd
    · rw [if_neg c]; exact E.nd j
  dj := fun j k a m1 m2 => by
    unfold updF at m1 m2
    by_cases c : j = i
    · by_cases c' : k = i
      · rw [c, c']
      · rw [if_pos c] at m1; rw [if_neg c'] at m2
        exact absurd m2 (dj a m1 k)
    · by_cases c' : k = i
      · rw [if_neg c] at m1; rw [if_pos c'] at m2
        exact absurd m1 (dj a m2 j)
      · rw [if_neg c] at m1; rw [if_neg c'] at m2
        exact E.dj j k a m1 m2
  nz := fun j a m => by
    unfold updF at m
    by_cases c : j = i
    · rw [if_pos c] at m; exact nz a m
    · rw [if_neg c] at m; exact E.nz j a m
  ln := by simp [E.ln]
  zx := E.zx
theorem NoA.set {d : OD} {i : Nat} (na : NoA ρ) (h : d.noAl = true) : NoA (ρ.set i (some d)) := fun j d' e => by
  by_cases c : j = i
  · subst c
    by_cases hi : j < ρ.length
    · rw [List.getElem?_set_self hi] at e
      cases e; exact h
    · rw [List.getElem?_eq_none (by simpa using hi)] at e; cases e
  · rw [List.getElem?_set_ne (Ne.symm c)] at e
    exact na j d' e
theorem set_big {α : Type} {l : List α} {i : Nat} {x : α} (h : ¬ i < l.length) : l.set i x = l := List.set_eq_of_length_le (Nat.le_of_not_lt h)
/-- the state behind a store of the value that came -/
theorem Nx.set {d : OD} {v : V} {B : List Addr} {i : Nat} (n : Nx T Z H F Z1 H1 ρ1 σ1 F1 B) (h : Vd T Z1 H1 d v B) (na : d.noAl = true) :
    ∃ F2, Nx T Z H F Z1 H1 (ρ1.set i (some d)) (σ1.set i (some v)) F2 [] := by
  by_cases hi : i < ρ1.length
  · refine ⟨updF F1 i B, n.keep, n.dom, n.up, n.dn, fun a m => ?_, n.ev.set hi h n.nd n.nz n.dj, n.na.set na, List.nodup_nil, fun _ h => (nomatch h), fun _ h => (nomatch h)⟩
    rcases m with m | ⟨j, m⟩
    · exact nomatch m
    · unfold updF at m
      by_cases c : j = i
      · rw [if_pos c] at m; exact n.own a (.inl m)
      · rw [if_neg c] at m; exact n.own a (.inr ⟨j, m⟩)
  · refine ⟨F1, ?_⟩
    rw [set_big hi, set_big (by rw [← n.ev.ln]; exact hi)]
    exact n.nil
theorem KpS.set {i : Nat} {v : Option V} (h : i ∉ ln) : KpS ln σ (σ.set i v) := fun j m => List.getElem?_set_ne (by intro e; subst e; exact h m)
/-- .. and of a name unbound -/
theorem Ev.drop {i : Nat} {o : Option V} (E : Ev T Z H ρ σ F) : Ev T Z H (ρ.set i none) (σ.set i o) (updF F i []) where
  at_ := fun j d' e => by
    by_cases c : j = i
    · subst c
      by_cases hi : j < ρ.length
      · rw [List.getElem?_set_self hi] at e; cases e
      · rw [List.getElem?_eq_none (by simpa using hi)] at e; cases e
    · rw [List.getElem?_set_ne (Ne.symm c)] at e
      obtain ⟨v', e1, q⟩ := E.at_ j d' e
      refine ⟨v', by rw [List.getElem?_set_ne (Ne.symm c)]; exact e1, ?_⟩
      unfold updF; rw [if_neg c]; exact q
  no := fun j a m => by
    unfold updF at m
    by_cases c : j = i
    · rw [if_pos c] at m; cases m
    · rw [if_neg c] at m
      obtain ⟨d', e⟩ := E.no j a m
      exact ⟨d', by rw [List.getElem?_set_ne (Ne.symm c)]; exact e⟩
  nd := fun j => by
    unfold updF
    by_cases c : j = i
    · rw [if_pos c]; exact List.nodup_nil
    · rw [if_neg c]; exact E.nd j
  dj := fun j k a m1 m2 => by
    unfold updF at m1 m2
    by_cases c : j = i
    · rw [if_pos c] at m1; cases m1
    · by_cases c' : k = i
      · rw [if_pos c'] at m2; cases m2
      · rw [if_neg c] at m1; rw [if_neg c'] at m2
        exact E.dj j k a m1 m2
  nz := fun j a m => by
    unfold updF at m
    by_cases c : j = i
    · rw [if_pos c] at m; cases m
    · rw [if_neg c] at m; exact E.nz j a m
  ln := by simp [E.ln]
  zx := E.zx
theorem NoA.drop {i : Nat} (na : NoA ρ) : NoA (ρ.set i none) := fun j d' e => by
  by_cases c : j = i
  · subst c
    by_cases hi : j < ρ.length
    · rw [List.getElem?_set_self hi] at e; cases e
    · rw [List.getElem?_eq_none (by simpa using hi)] at e; cases e
  · rw [List.getElem?_set_ne (Ne.symm c)] at e
    exact na j d' e

/-! ## statements -/
def bNil : SM := fun ρ => .nx ρ
def bSeq (a b : SM) : SM := fun ρ => match a ρ with
  | .nx ρ1 => b ρ1
  | r => r
def bBk : SM := fun ρ => .bk ρ
def bCt : SM := fun ρ => .ct ρ
def bDrop (m : EM) : SM := fun ρ => match m ρ with
  | .ok _ ρ1 => .nx ρ1
  | .ex k p ρ1 => .ex k p ρ1
  | .st => .st
def bSet (i : Nat) (m : EM) : SM := fun ρ => match m ρ with
  | .ok d ρ1 => .nx (ρ1.set i (some d))
  | .ex k p ρ1 => .ex k p ρ1
  | .st => .st
def bRet (m : EM) : SM := fun ρ => match m ρ with
  | .ok d ρ1 => .rt d ρ1
  | .ex k p ρ1 => .ex k p ρ1
  | .st => .st
def bIf (c : EM) (a b : SM) : SM := fun ρ => match c ρ with
  | .ok (.pl (.bl t)) ρ1 => if t = true then a ρ1 else b ρ1
  | .ok _ _ => .st
  | .ex k p ρ1 => .ex k p ρ1
  | .st => .st
def bNever : SM := fun _ => .st
theorem s_next {m : SM} (hm : m = bNil) {t : TS} (ht : t = tNext) : ∀ D σ H, tS T W ln m D σ H → t D σ H := fun D σ H h => by
  subst hm; subst ht
  obtain ⟨Z, F, ρ, E, na, q⟩ := of_tS h
  exact q σ Z H F (Nx.refl E na) .refl
theorem fs_nil : PSs X [] (tS T W ln bNil) := pss_imp pss_nil (s_next rfl rfl)
theorem fs_pass {pos : Pos} : PS X (.Pass pos) (tS T W ln bNil) := ps_imp ps_pass (s_next rfl rfl)
theorem fs_doc {x : Str} {j : Nat} {pos pos' : Pos} : PS X (.Expr (.Constant (.str x) j pos) pos') (tS T W ln bNil) := ps_imp ps_doc (s_next rfl rfl)
theorem fs_bk {pos : Pos} : PS X (.Break pos) (tS T W ln bBk) := ps_imp ps_break fun D σ H h => by
  obtain ⟨Z, F, ρ, E, na, q⟩ := of_tS h
  exact q σ Z H F (Nx.refl E na) .refl
theorem fs_ct {pos : Pos} : PS X (.Continue pos) (tS T W ln bCt) := ps_imp ps_continue fun D σ H h => by
  obtain ⟨Z, F, ρ, E, na, q⟩ := of_tS h
  exact q σ Z H F (Nx.refl E na) .refl
theorem fs_never {st : Stmt} : PS X st (tS T W ln bNever) := ps_imp ps_never fun D σ H h => by
  obtain ⟨Z, F, ρ, E, na, q⟩ := of_tS h
  exact q
theorem fs_cons {st : Stmt} {rest : List Stmt} {a b : SM} (h1 : PS X st (tS T W ln a)) (h2 : PSs X rest (tS T W ln b)) : PSs X (st :: rest) (tS T W ln (bSeq a b)) :=
  pss_imp (pss_cons h1 h2) fun D σ H h => by
    obtain ⟨Z, F, ρ, E, na, q⟩ := of_tS h
    refine tS_of E na ?_
    unfold bSeq at q
    cases e : a ρ with
    | nx ρ1 =>
      rw [e] at q
      intro σ' Z' H' F' n k
      exact tS_of n.ev n.na (PostS.tr E n k q)
    | bk ρ1 => rw [e] at q; exact q
    | ct ρ1 => rw [e] at q; exact q
    | rt d ρ1 => rw [e] at q; exact q
    | ex k p ρ1 => rw [e] at q; exact q
    | st => rw [e] at q; exact q
theorem fs_one {st : Stmt} {a : SM} (h1 : PS X st (tS T W ln a)) : PSs X [st] (tS T W ln a) := pss_one h1
theorem fs_expr {e : Expr} {m : EM} {pos : Pos} (he : PE X e (tE T W m)) (hs : swapsWith e none pos.line X.env = pure false := by rfl) : PS X (.Expr e pos) (tS T W ln (bDrop m)) :=
  ps_imp (ps_expr he hs) fun D σ H h => by
    obtain ⟨Z, F, ρ, E, na, q⟩ := of_tS h
    refine tE_of E na ?_
    unfold bDrop at q
    cases e1 : m ρ with
    | ok d ρ1 =>
      rw [e1] at q
      intro v Z' H' F' B n _ _
      exact q σ Z' H' F' n.nil .refl
    | ex k p ρ1 =>
      rw [e1] at q
      intro c dd Z' H' F' n hx
      exact q σ c dd Z' H' F' n hx .refl
    | st => rw [e1] at q; exact q
theorem t_set {i : Nat} {m : EM} (hi : i ∉ ln) : ∀ D σ H, tS T W ln (bSet i m) D σ H → tAsg (tE T W m) (gName i) D σ H := fun D σ H h => by
  obtain ⟨Z, F, ρ, E, na, q⟩ := of_tS h
  refine tE_of E na ?_
  unfold bSet at q
  cases e1 : m ρ with
  | ok d ρ1 =>
    rw [e1] at q
    intro v Z' H' F' B n hv nd
    obtain ⟨F2, n2⟩ := n.set (i := i) hv nd
    exact q _ Z' H' F2 n2 (.set hi)
  | ex k p ρ1 =>
    rw [e1] at q
    intro c dd Z' H' F' n hx
    exact q σ c dd Z' H' F' n hx .refl
  | st => rw [e1] at q; exact q
theorem fs_set {i : Nat} {x : Str} {e : Expr} {m : EM} {pos pos' : Pos} (hN : X.N.Nodup) (hn : X.N[i]? = some x) (hx : Loc X.env.scope x) (hi : i ∉ ln) (he : PE X e (tE T W m)) (hs : swapsWith e (some (.Name x pos')) pos.line X.env = pure false := by rfl)
    (hf : X.fn x = true ∨ X.env.scope.names.lookup x = some .local := by first | exact .inl rfl | exact .inr rfl | assumption) : PS X (.Assign [.Name x pos'] e pos) (tS T W ln (bSet i m)) :=
  ps_imp (ps_set hN hn hx he hs hf) (t_set hi)
theorem fs_ret {e : Expr} {m : EM} {pos : Pos} (he : PE X e (tE T W m)) : PS X (.Return (some e) pos) (tS T W ln (bRet m)) :=
  ps_imp (ps_ret he) fun D σ H h => by
    obtain ⟨Z, F, ρ, E, na, q⟩ := of_tS h
    refine tE_of E na ?_
    unfold bRet at q
    cases e1 : m ρ with
    | ok d ρ1 =>
      rw [e1] at q
      intro v Z' H' F' B n hv nd
      exact q σ v Z' H' F' B n hv nd .refl
    | ex k p ρ1 =>
      rw [e1] at q
      intro c dd Z' H' F' n hx
      exact q σ c dd Z' H' F' n hx .refl
    | st => rw [e1] at q; exact q
def bRetN : SM := fun ρ => .rt (.pl .non) ρ
theorem fs_retN {pos : Pos} : PS X (.Return none pos) (tS T W ln bRetN) := ps_imp ps_retN fun D σ H h => by
  obtain ⟨Z, F, ρ, E, na, q⟩ := of_tS h
  exact q σ .non Z H F [] (Nx.refl E na) (by simp only [Vd, Vw]; exact ⟨trivial, trivial⟩) rfl .refl
theorem bl_of {Z' : Addr → Prop} {H' : Hp} {b : Bool} {v : V} {B : List Addr} (h : Vd T Z' H' (.pl (.bl b)) v B) : v = .bl b := by
  simp only [Vd, Vw] at h
  exact h.2
theorem int_of {Z' : Addr → Prop} {H' : Hp} {b : Int} {v : V} {B : List Addr} (h : Vd T Z' H' (.pl (.int b)) v B) : v = .int b := by
  simp only [Vd, Vw] at h
  exact h.2
theorem fs_if {c : Expr} {sa sb : List Stmt} {m : EM} {a b : SM} {pos : Pos} (hc : PT X c (tB (tE T W m))) (ha : PSs X sa (tS T W ln a)) (hb : PSs X sb (tS T W ln b)) : PS X (.If c sa sb pos) (tS T W ln (bIf m a b)) :=
  ps_imp (ps_if hc ha hb) fun D σ H h => by
    obtain ⟨Z, F, ρ, E, na, q⟩ := of_tS h
    refine tE_of E na ?_
    unfold bIf at q
    cases e1 : m ρ with
    | ok d ρ1 =>
      rw [e1] at q
      intro v Z' H' F' B n hv nd
      cases d with
      | pl p =>
        cases p with
        | bl t =>
          refine ⟨t, bl_of hv, ?_⟩
          cases t with
          | true => exact tS_of n.ev n.na (PostS.tr E n .refl q)
          | false => exact tS_of n.ev n.na (PostS.tr E n .refl q)
        | _ => exact q.elim
      | _ => exact q.elim
    | ex k p ρ1 =>
      rw [e1] at q
      intro c dd Z' H' F' n hx
      exact q σ c dd Z' H' F' n hx .refl
    | st => rw [e1] at q; exact q

/-! ## while -/
def bWhile (c : EM) (b : SM) : Nat → SM
  | 0, _ => .st
  | n + 1, ρ => match c ρ with
    | .ok (.pl (.bl t)) ρ1 => if t = true then (match b ρ1 with
        | .nx ρ2 => bWhile c b n ρ2
        | .ct ρ2 => bWhile c b n ρ2
        | .bk ρ2 => .nx ρ2
        | r => r) else .nx ρ1
    | .ok _ _ => .st
    | .ex k p ρ1 => .ex k p ρ1
    | .st => .st
theorem fs_while {c : Expr} {sb : List Stmt} {m : EM} {b : SM} {pos : Pos} (N : Nat) (hp : PassesOwn (model X.prog X.w) X.A X.env X.xe) (hc : PT X c (tB (tE T W m))) (hb : PSs X sb (tS T W ln b)) : PS X (.While c sb [] pos) (tS T W ln (bWhile m b N)) :=
  ps_imp (ps_while hp hc hb) fun D σ H h => by
    obtain ⟨Z, F, ρ, E, na, q⟩ := of_tS h
    refine ⟨fun n σ' H' => ∃ Z' F' ρ', Ev T Z' H' ρ' σ' F' ∧ NoA ρ' ∧ PostS T W ln D Z' H' F' σ' (bWhile m b n ρ'), ⟨N, Z, F, ρ, E, na, q⟩, ?_⟩
    rintro n σ1 H1 ⟨Z1, F1, ρ1, E1, na1, q1⟩
    cases n with
    | zero => exact q1.elim
    | succ n =>
      refine tE_of E1 na1 ?_
      unfold bWhile at q1
      cases e1 : m ρ1 with
      | ok d ρ2 =>
        rw [e1] at q1
        intro v Z' H' F' B nn hv nd
        cases d with
        | pl p =>
          cases p with
          | bl t =>
            refine ⟨t, bl_of hv, ?_⟩
            cases t with
            | true =>
              refine ⟨fun σ' H' => ∃ Z' F' ρ', Ev T Z' H' ρ' σ' F' ∧ NoA ρ' ∧ PostS T W ln D Z' H' F' σ' (bWhile m b n ρ'), fun σ' H' hh => ⟨n, Nat.lt_succ_self n, hh⟩, ?_⟩
              refine tS_of nn.ev nn.na ?_
              simp only [if_true] at q1
              have q2 := PostS.tr E1 nn (.refl (ln := ln)) q1
              cases e2 : b ρ2 with
              | nx ρ3 =>
                rw [e2] at q2
                intro σ3 Z3 H3 F3 n3 k3
                exact ⟨Z3, F3, ρ3, n3.ev, n3.na, PostS.tr nn.ev n3 k3 q2⟩
              | ct ρ3 =>
                rw [e2] at q2
                intro σ3 Z3 H3 F3 n3 k3
                exact ⟨Z3, F3, ρ3, n3.ev, n3.na, PostS.tr nn.ev n3 k3 q2⟩
              | bk ρ3 => rw [e2] at q2; exact q2
              | rt d ρ3 => rw [e2] at q2; exact q2
              | ex k p ρ3 => rw [e2] at q2; exact q2
              | st => rw [e2] at q2; exact q2
            | false => exact q1 _ Z' H' F' nn.nil .refl
          | _ => exact q1.elim
        | _ => exact q1.elim
      | ex k p ρ2 =>
        rw [e1] at q1
        intro c dd Z' H' F' nn hx
        exact q1 σ1 c dd Z' H' F' nn hx .refl
      | st => rw [e1] at q1; exact q1
end
end Rq
end

section
set_option Elab.async false
set_option linter.all false
set_option maxRecDepth 100000
set_option maxHeartbeats 1000000
namespace PySem
open Sem (wp)
open AutoSeq1 (wpAny_loadPart')
set_option maxHeartbeats 1000000 in
theorem rq_enum_new1 {v : Value} {o : Obj} {H : Heap → Prop} (B : Begins v o H) :
    Meets (Builtin.«enumerate.__new__» ⟨[.type "enumerate", v], []⟩) (fun _ R s => H s.heap ∧
      R (.ok (.ret (.ref (s.heap.push o).objs.size))) { s with heap := (s.heap.push o).push { cls := .type "enumerate", data := .fields #[.none, .bool false, .ref s.heap.objs.size, rawInt 0, .none, .none] } }) :=
  .of_wp fun prog w A R s h => by
    obtain ⟨hp, g, d, tk, os⟩ := s; obtain ⟨h1, h⟩ := h
    have hsub := sub_enumerate
    have q1 : ∀ {A' : Around} {E : Value → Shared → Prop} {Q : Value → Shared → Prop}, Q (.ref hp.objs.size) ⟨hp.push o, g, d, tk, os⟩ → wpAny (model prog w) A' (pyIter v) Q E ⟨hp, g, d, tk, os⟩ :=
      fun q => B.iter prog w _ _ ⟨hp, g, d, tk, os⟩ _ h1 q
    wp_walk using q1
    refine wpAny_stack_any fun st => wpAny_pure ?_
    split
    · rename_i c _ _ _ _ _
      cases (c == Value.type "enumerate")
      · wp_walk using q1
        exact ⟨_, rfl, h⟩
      · wp_walk using q1
        exact ⟨_, rfl, h⟩
    · wp_walk using q1
      exact ⟨_, rfl, h⟩
section
variable {prog : Program} {w : World} {A : Around} {E : Value → Shared → Prop} {s : Shared}
theorem rq_enum_begins {v : Value} {o : Obj} {H : Heap → Prop} {Q : Value → Shared → Prop} (B : Begins v o H) (h1 : H s.heap)
    (h : ∀ h', IsEnum h' (s.heap.objs.size + 1) s.heap.objs.size 0 .none → h'.get? s.heap.objs.size = some o → h'.objs.size = s.heap.objs.size + 2 →
      (∀ b o, s.heap.get? b = some o → h'.get? b = some o) → Q (.ref (s.heap.objs.size + 1)) { s with heap := h' }) :
    wpAny (model prog w) A (call (.type "enumerate") [v]) Q E s := by
  refine callType_new F.called_enumerate (by decide) (F.typeCall_enumerate_1 _) (F.newCall_enumerate_1 _) (fun obj => F.args_object_init_2 obj _) F.entry_enumerate_new
    (rq_enum_new1 B) ⟨h1, ?_⟩
  have hz : (s.heap.push o).objs.size = s.heap.objs.size + 1 := Heap.size_push ..
  show _ ∧ _
  rw [hz]
  have he : IsEnum ((s.heap.push o).push { cls := .type "enumerate", data := .fields #[.none, .bool false, .ref s.heap.objs.size, rawInt 0, .none, .none] }) (s.heap.objs.size + 1) s.heap.objs.size 0 .none := by
    have := Heap.get?_push_size (s.heap.push o) (o := { cls := .type "enumerate", data := .fields #[.none, .bool false, .ref s.heap.objs.size, rawInt 0, .none, .none] }) rfl
    rw [hz] at this; exact this
  refine ⟨⟨_, he, rfl⟩, h _ he (Heap.get?_push_of_some _ (Heap.get?_push_size _ B.free)) (by rw [Heap.size_push, hz]) fun b o x => Heap.get?_push_of_some _ (Heap.get?_push_of_some _ x)⟩
theorem rq_enum_endT {e it l : Addr} {i : Nat} {items : Array Value} {old : Value} {Q : Option Value → Shared → Prop} (hh : A.handled = none)
    (he : IsEnum s.heap e it i old) (hit : s.heap.IsTupleIter it l i) (hl : s.heap.IsTuple l items) (hx : items[i]? = none)
    (hQ : ∀ h', Heap.ExtBut it s.heap h' → Q none { s with heap := h' }) : wpAny (model prog w) A (pyNext (.ref e)) Q E s := by
  have ty : s.TypeIs (.ref e) "enumerate" := ⟨_, he, rfl⟩
  unfold pyNext
  refine wpAny_bind (wpAny_attempt (wpAny_callSpecial?_slot (name := Str.ofString "__next__") ty F.slot_enumerate_next
    (wpAny_call_entry F.slot_enumerate_next ty F.entry_enumerate_next ?_ (F.args_enumerate_next_1 _))))
  show wpAny _ _ (field (.ref e) 2 >>= _) _ _ _
  refine wpAny_bind (wpAny_field he rfl (x := .ref it) rfl ?_)
  refine wpAny_bind (wpAny_nextOf_tuple_end hh hit hl hx fun h' x y hz => ?_)
  obtain ⟨o, ho, hc⟩ := hz
  exact wpAny_bind (wpAny_isInstance (T := "StopIteration") (b := true) ⟨o, ho, hc⟩ isSubtype_stop (wpAny_pure (hQ _ y)))
end
end PySem
namespace L2
open PySem PySem.Spec PyProof.Rows
def IteT (K : PySem.W.Frag) (a : Addr) : It :=
  ⟨fun i H => ∃ (xs : List V) (x : V), SqT K H a xs ∧ xs[i]? = some x, fun i H v H' => ∃ T x, v = .ref T ∧ H T = none ∧ H' = upd H T (.tup [.int (i : Nat), x]) ∧ ∀ xs, SqT K H a xs → xs[i]? = some x, fun i H => ∃ xs : List V, SqT K H a xs ∧ xs.length ≤ i⟩
theorem turn_enumT {P : Program} {w : World} {K : PySem.W.Frag} {elts : List Expr} {kk : Nat} {tpos : Pos} (a e it : Addr) :
    Turn P w K (.Tuple elts kk tpos) (IteT K a) [e, it] e (fun i h => (∃ old, IsEnum h e it ((i : Nat) : Int) old) ∧ h.IsTupleIter it a i ∧ e ≠ it) where
  mem := by simp
  obj := fun i h st b hb => by
    obtain ⟨⟨old, he⟩, ⟨o, ho, hc, hd⟩, _⟩ := st
    have e' : b = e ∨ b = it := by simpa using hb
    rcases e' with z | z
    · rw [z]; exact ⟨_, he, fun v q => nomatch q⟩
    · rw [z]; exact ⟨o, ho, fun v q => by rw [hd] at q; cases q⟩
  keep := fun i h h' st k => let ⟨⟨old, he⟩, hi, hne⟩ := st; ⟨⟨old, k e (by simp) _ he⟩, hi.at fun o q => k it (by simp) o q, hne⟩
  item := by
    intro X hP hw hK hc i pins s σ H E I hf st hg
    subst hP hw hK
    obtain ⟨⟨old, he⟩, hit, hne⟩ := st
    obtain ⟨xs, x, hq, hx⟩ := hg
    obtain ⟨its, rv, p, hz⟩ := I.tuple hq
    obtain ⟨u, hu, ru⟩ := rv.get hx
    have hel : e < s.heap.objs.size := Heap.lt_size he
    have hil : it < s.heap.objs.size := by obtain ⟨_, q, _⟩ := hit; exact Heap.lt_size q
    have p' : s.heap.IsTuple a its.toArray := p
    have hai : a ≠ it := by
      intro q
      obtain ⟨o, ho, hc1, hd1⟩ := hit
      obtain ⟨o2, ho2, hc2, _⟩ := p
      rw [q, ho] at ho2; cases ho2
      rw [hc1] at hc2; exact absurd (Value.type.inj hc2) (by decide)
    have hae : e ≠ a := by
      intro q
      obtain ⟨o2, ho2, hc2, _⟩ := p
      rw [← q, he] at ho2; cases ho2
      exact absurd (Value.type.inj hc2) (by decide)
    have hlt : i < its.toArray.size := by
      have := (List.getElem?_eq_some_iff.mp hu).1
      simpa using this
    refine wpAny_pyNext_enum_itemD (Draws.tuple (A := X.A.in1) (I.ok.hd hc) it a hai its.toArray) he ⟨hit, p'⟩ hlt hne (by simp [hne, hae]) fun x' h' tk hx' ho hit' hT hsz hk => ?_
    have ex : x' = u := by
      have e1 : its[i]? = some x' := by simpa using hx'
      rw [hu] at e1; exact (Option.some.inj e1).symm
    subst ex
    refine ⟨_, rfl, wpAny_letOwnedTupleGo_enum (s := { s with heap := h', toks := tk + 1 }) ho fun h'' he' sb => ?_⟩
    have hT2 : h''.get? s.heap.objs.size = some { cls := .type "tuple", data := .seq #[.int i tk, x'] } := (sb.2 _ (Nat.ne_of_gt hel)).trans hT
    have new : ObjOk X.prog X.w (upd H s.heap.objs.size (.tup [.int (i : Nat), x])) h'' s.heap.objs.size (.tup [.int (i : Nat), x]) :=
      ⟨by show 2 ≤ sizeLine; decide, [.int i tk, x'], .cons ⟨_, rfl⟩ (.cons ru .nil), ⟨_, hT2, rfl, _, rfl⟩⟩
    have I1 : Inv X pins σ (upd H s.heap.objs.size (.tup [.int (i : Nat), x])) { s with heap := h'', toks := tk + 1 } :=
      I.turnedNew (ch := [e, it]) (fun b ob hb q => (sb.2 b (fun z => hb (by simp [z]))).trans (hk b ob (fun z => hb (by simp [z])) (fun z => hb (by simp [z])) q)) hf (Nat.le_refl _) new
    refine ⟨.ref s.heap.objs.size, _, I1, rfl, ⟨_, x, rfl, I.hok.fresh (Nat.le_refl _), rfl, fun ys hy => by rw [I.tuple_inj hy hq]; exact hx⟩, ⟨⟨x', ?_⟩, hit'.1.at fun o q => (sb.2 it (Ne.symm hne)).trans q, hne⟩, fun b hb => ?_⟩
    · have e1 : ((i + 1 : Nat) : Int) = (i : Int) + 1 := by omega
      rw [e1]; exact he'
    · have hb' : b < s.heap.objs.size := by
        have e' : b = e ∨ b = it := by simpa using hb
        rcases e' with z | z
        · rw [z]; exact hel
        · rw [z]; exact hil
      rw [upd_ne (Nat.ne_of_lt hb')]
      exact (hf b hb).1
  done := by
    intro X hP hw hK hc i pins s σ H E I hf st hg
    subst hP hw hK
    obtain ⟨⟨old, he⟩, hit, hne⟩ := st
    obtain ⟨xs, hq, hx⟩ := hg
    obtain ⟨its, rv, p, hz⟩ := I.tuple hq
    obtain ⟨f0, f1, f2, f3, f4, f5⟩ := hf it (by simp)
    have hl := rv.length
    have p' : s.heap.IsTuple a its.toArray := p
    have hai : a ≠ it := by
      intro q
      obtain ⟨o, ho, hc1, hd1⟩ := hit
      obtain ⟨o2, ho2, hc2, _⟩ := p
      rw [q, ho] at ho2; cases ho2
      rw [hc1] at hc2; exact absurd (Value.type.inj hc2) (by decide)
    have hae : e ≠ a := by
      intro q
      obtain ⟨o2, ho2, hc2, _⟩ := p
      rw [← q, he] at ho2; cases ho2
      exact absurd (Value.type.inj hc2) (by decide)
    refine rq_enum_endT (I.ok.hd hc) he hit p' (by simp; omega) fun h' eb => ⟨rfl, I.turned (t' := s.toks) (fun b o hb q => eb b o hb q) f0 f1 f3 f4 f5⟩
  self := fun A i s Q E st h => let ⟨⟨_, he⟩, _⟩ := st; wpAny_pyIter_enum he h
/-- enumerate(e), e a list or a tuple -/
def iEnumS (K : PySem.W.Frag) (ta : TA) : TI := fun σ H R => ta σ H fun vs H1 => ∃ a xs, vs = [.ref a] ∧ ((SqL K H1 a xs ∧ (xs.length ≤ sizeLine → R (Ite K a) H1)) ∨ (SqT K H1 a xs ∧ (xs.length ≤ sizeLine → R (IteT K a) H1)))
theorem pi_enumS {X : Cx} {e : Expr} {ta : TA} {p pos tpos : Pos} {elts : List Expr} {kk : Nat} (hg : Gl X "enumerate") (hm : X.mg "enumerate" = none) (ha : PA X [e] ta) (hs : starEach [e] X.env = [(false, eval e X.env)] := by rfl) :
    PI X (.Tuple elts kk tpos) (.Call (.Name "enumerate" p) [e] [] pos) (iEnumS X.K ta) := by
  refine ⟨fun pins s σ H R I h => ?_⟩
  refine Call_ (ld_blt I hg hm boot_enumerate (PyProof.Rows.callWith_type1 (thn (ha.run pos pins s σ H _ I h) fun us s1 ⟨vs, H1, I1, r1, q1⟩ => ?_) hs rfl))
  obtain ⟨a, xs, ex, q⟩ := q1
  subst ex
  have fin : ∀ b : Addr, b = s1.heap.objs.size + 1 ∨ b = s1.heap.objs.size → s1.heap.objs.size ≤ b := fun b e' => by
    rcases e' with z | z
    · rw [z]; exact Nat.le_add_right _ _
    · rw [z]; exact Nat.le_refl _
  cases r1 with
  | cons r rr =>
    cases rr
    cases r
    rcases q with ⟨hq, q⟩ | ⟨hq, q⟩
    · obtain ⟨its, rv, p', hz⟩ := I1.list hq
      refine call_enumerate_list p'.isList fun h' he hit hsz hk => wpAny_pyIter_enum he ?_
      have I2 : Inv X pins σ H1 { s1 with heap := h' } := I1.kept (t' := s1.toks) hk
      refine ⟨s1.heap.objs.size + 1, [s1.heap.objs.size + 1, s1.heap.objs.size], _, _, H1, rfl, I2, turn_enum a (s1.heap.objs.size + 1) s1.heap.objs.size, ⟨⟨.none, he⟩, hit, Nat.succ_ne_self _⟩, fun b hb => ?_, q hz⟩
      have hle := fin b (by simpa using hb)
      exact I1.fpOk hle (I1.hok.fresh hle)
    · obtain ⟨its, rv, p', hz⟩ := I1.tuple hq
      refine rq_enum_begins (begins_tuple a its.toArray) p' fun h' he hit hsz hk => wpAny_pyIter_enum he ?_
      have I2 : Inv X pins σ H1 { s1 with heap := h' } := I1.kept (t' := s1.toks) hk
      refine ⟨s1.heap.objs.size + 1, [s1.heap.objs.size + 1, s1.heap.objs.size], _, _, H1, rfl, I2, turn_enumT a (s1.heap.objs.size + 1) s1.heap.objs.size, ⟨⟨.none, he⟩, ⟨_, hit, rfl, rfl⟩, Nat.succ_ne_self _⟩, fun b hb => ?_, q hz⟩
      have hle := fin b (by simpa using hb)
      exact I1.fpOk hle (I1.hok.fresh hle)
/-- a list or a tuple, walked -/
def iSq (K : PySem.W.Frag) (tl : TE) : TI := fun σ H R => tl σ H fun x H1 => ∃ a xs, x = .ref a ∧ ((SqL K H1 a xs ∧ (xs.length ≤ sizeLine → R (Itl K a) H1)) ∨ (SqT K H1 a xs ∧ (xs.length ≤ sizeLine → R (Itt K a) H1)))
theorem pi_sq {X : Cx} {tg l : Expr} {tl : TE} (hl : PE X l tl) : PI X tg l (iSq X.K tl) := by
  refine ⟨fun pins s σ H R I h => ?_⟩
  refine thn (hl.run pins s σ H _ I h) fun v s1 ⟨x, H1, I1, r1, q1⟩ => ?_
  obtain ⟨a, xs, e, q⟩ := q1
  subst e
  cases r1
  have fin : ∀ b ∈ [s1.heap.objs.size], FpOk X pins H1 b := fun b hb => by
    have e : b = s1.heap.objs.size := by simpa using hb
    rw [e]
    exact I1.fpOk (Nat.le_refl _) (I1.hok.fresh (Nat.le_refl _))
  have kp : ∀ {ob : Obj}, Inv X pins σ H1 { s1 with heap := s1.heap.push ob } := I1.kept (t' := s1.toks) fun b o e => Heap.get?_push_of_some _ e
  rcases q with ⟨hq, q⟩ | ⟨hq, q⟩
  · obtain ⟨its, rv, p, hz⟩ := I1.list hq
    exact wpAny_pyIter_list p.isList ⟨s1.heap.objs.size, [s1.heap.objs.size], _, _, H1, rfl, kp, turn_list a _, ⟨_, Heap.get?_push_size _ rfl, rfl, rfl⟩, fin, q hz⟩
  · obtain ⟨its, rv, p, hz⟩ := I1.tuple hq
    exact wpAny_pyIter_tuple (show s1.heap.IsTuple a its.toArray from p) ⟨s1.heap.objs.size, [s1.heap.objs.size], _, _, H1, rfl, kp, turn_tuple a _, ⟨_, Heap.get?_push_size _ rfl, rfl, rfl⟩, fin, q hz⟩
end L2
end

section
set_option Elab.async false
set_option linter.all false
set_option maxRecDepth 100000
set_option maxHeartbeats 1000000
namespace Rq
open PySem PySem.Spec PyProof.Rows L2

/-! ## items -/
def plL : List PD → List OD
  | [] => []
  | p :: ps => .pl p :: plL ps
def OD.kids : OD → Option (List OD)
  | .pl (.lst l) => some (plL l)
  | .pl (.tup l) => some (plL l)
  | .pl _ => none
  | .ol l => some (vwL l)
  | .ot l => some (vwL l)
  | .al l => some (vwL l)
def PD.kids : PD → Option (List PD)
  | .lst l => some l
  | .tup l => some l
  | _ => none
def OD.kidsT : OD → Option (List OD)
  | .pl (.tup l) => some (plL l)
  | .ot l => some (vwL l)
  | _ => none
section
variable {T : Tb} {Z Z' : Addr → Prop} {H H' : Hp}
theorem VwL.pl : ∀ {l : List PD} {xs : List V}, VwL T Z H l xs → VdL T Z H (plL l) xs []
  | [], xs, h => by simp only [plL, VdL, VwL] at h ⊢; exact ⟨h, trivial⟩
  | p :: ps, xs, h => by
    simp only [plL, VdL, VwL] at h ⊢
    obtain ⟨x, r, e, s, q⟩ := h
    exact ⟨x, r, [], [], e, rfl, by simp only [Vd]; exact ⟨trivial, s⟩, VwL.pl q⟩
theorem VdL.get : ∀ {l : List OD} {xs : List V} {i : Nat} {d : OD}, VdL T Z H l xs [] → l[i]? = some d → ∃ x, xs[i]? = some x ∧ Vd T Z H d x []
  | [], xs, i, d, h, e => by simp at e
  | d0 :: l, xs, i, d, h, e => by
    simp only [VdL] at h
    obtain ⟨x, r, B1, B2, ex, eb, s, q⟩ := h
    have e1 : B1 = [] := (List.append_eq_nil_iff.mp eb.symm).1
    have e2 : B2 = [] := (List.append_eq_nil_iff.mp eb.symm).2
    subst e1; subst e2; subst ex
    cases i with
    | zero => simp at e; subst e; exact ⟨x, rfl, s⟩
    | succ i => exact VdL.get (i := i) q (by simpa using e)
theorem VdL.len : ∀ {l : List OD} {xs : List V} {B : List Addr}, VdL T Z H l xs B → xs.length = l.length
  | [], xs, B, h => by simp only [VdL] at h; rw [h.1]; rfl
  | d0 :: l, xs, B, h => by
    simp only [VdL] at h
    obtain ⟨x, r, B1, B2, ex, eb, s, q⟩ := h
    subst ex
    simp only [List.length_cons, VdL.len q]
theorem Vd.kids {d : OD} {v : V} {B : List Addr} {l : List OD} (h : Vd T Z H d v B) (k : d.kids = some l) :
    ∃ a xs, v = .ref a ∧ (Rd H a (.lst xs) ∨ Rd H a (.tup xs)) ∧ VdL T Z H l xs [] := by
  cases d with
  | pl p =>
    simp only [Vd] at h
    cases p with
    | lst l' =>
      simp only [OD.kids, Option.some.injEq] at k
      subst k
      have h := h.2
      simp only [Vw] at h
      obtain ⟨a, xs, e, r, z, q⟩ := h
      exact ⟨a, xs, e, .inl r, VwL.pl q⟩
    | tup l' =>
      simp only [OD.kids, Option.some.injEq] at k
      subst k
      have h := h.2
      simp only [Vw] at h
      obtain ⟨a, xs, e, r, q⟩ := h
      exact ⟨a, xs, e, .inr r, VwL.pl q⟩
    | _ => simp [OD.kids] at k
  | ol l' =>
    simp only [OD.kids, Option.some.injEq] at k
    subst k
    simp only [Vd] at h
    obtain ⟨a, xs, B', e, b, r, q⟩ := h
    exact ⟨a, xs, e, .inl (Rd.of r), VdL.vw q⟩
  | ot l' =>
    simp only [OD.kids, Option.some.injEq] at k
    subst k
    simp only [Vd] at h
    obtain ⟨a, xs, e, r, q⟩ := h
    exact ⟨a, xs, e, .inr r, VdL.vw q⟩
  | al l' =>
    simp only [OD.kids, Option.some.injEq] at k
    subst k
    simp only [Vd] at h
    obtain ⟨a, xs, e, r, q⟩ := h
    exact ⟨a, xs, e, .inl r, VdL.vw q⟩
theorem Vd.kidsT {d : OD} {v : V} {B : List Addr} {l : List OD} (h : Vd T Z H d v B) (k : d.kidsT = some l) :
    ∃ a xs, v = .ref a ∧ Rd H a (.tup xs) ∧ VdL T Z H l xs [] := by
  cases d with
  | pl p =>
    simp only [Vd] at h
    cases p with
    | tup l' =>
      simp only [OD.kidsT, Option.some.injEq] at k
      subst k
      have h := h.2
      simp only [Vw] at h
      obtain ⟨a, xs, e, r, q⟩ := h
      exact ⟨a, xs, e, r, VwL.pl q⟩
    | _ => simp [OD.kidsT] at k
  | ol l' => simp [OD.kidsT] at k
  | ot l' =>
    simp only [OD.kidsT, Option.some.injEq] at k
    subst k
    simp only [Vd] at h
    obtain ⟨a, xs, e, r, q⟩ := h
    exact ⟨a, xs, e, r, VdL.vw q⟩
  | al l' => simp [OD.kidsT] at k
theorem noAl_vwL_pl : ∀ {l : List PD}, noAlL (plL l) = true
  | [] => rfl
  | p :: ps => by simp [plL, noAlL, OD.noAl, noAl_vwL_pl]
theorem Vw.kids {p : PD} {v : V} {l : List PD} (h : Vw T Z H p v) (k : p.kids = some l) :
    ∃ a xs, v = .ref a ∧ ((Rd H a (.lst xs) ∧ Z a) ∨ Rd H a (.tup xs)) ∧ VwL T Z H l xs := by
  cases p with
  | lst l' =>
    simp only [PD.kids, Option.some.injEq] at k
    subst k
    simp only [Vw] at h
    obtain ⟨a, xs, e, r, z, q⟩ := h
    exact ⟨a, xs, e, .inl ⟨r, z⟩, q⟩
  | tup l' =>
    simp only [PD.kids, Option.some.injEq] at k
    subst k
    simp only [Vw] at h
    obtain ⟨a, xs, e, r, q⟩ := h
    exact ⟨a, xs, e, .inr r, q⟩
  | _ => simp [PD.kids] at k
end
/-! ## what is walked -/
def Src (T : Tb) (Rl : Hp → Prop) (J : It) (Z : Addr → Prop) (l : List OD) : Prop :=
  ∀ H1, Rl H1 → (∀ i, l.length ≤ i → J.stop i H1) ∧ ∀ (i : Nat) (d : OD), l[i]? = some d → J.go i H1 ∧ ∀ x H', J.yld i H1 x H' → Same H1 H' ∧ Vd T Z H' d x []
/-- numbers -/
def rngP (lo : Int) : Nat → List PD
  | 0 => []
  | n + 1 => .int lo :: rngP (lo + 1) n
theorem rngP_len (lo : Int) (n : Nat) : (rngP lo n).length = n := by
  induction n generalizing lo with
  | zero => rfl
  | succ n ih => simp [rngP, ih]
theorem rngP_get (lo : Int) (n : Nat) : ∀ {i : Nat} {p : PD}, (rngP lo n)[i]? = some p → i < n ∧ p = .int (lo + i) := by
  induction n generalizing lo with
  | zero => intro i p h; simp [rngP] at h
  | succ n ih =>
    intro i p h
    cases i with
    | zero => simp [rngP] at h; subst h; simp
    | succ i =>
      simp only [rngP, List.getElem?_cons_succ] at h
      obtain ⟨a, b⟩ := ih (lo + 1) h
      refine ⟨by omega, ?_⟩
      rw [b]
      congr 1
      omega
/-- pairs of place and item -/
def enP : Nat → List PD → List PD
  | _, [] => []
  | i, p :: ps => .tup [.int i, p] :: enP (i + 1) ps
def enD : Nat → List OD → List OD
  | _, [] => []
  | i, p :: ps => .ot [.pl (.int i), p] :: enD (i + 1) ps
theorem enP_len (l : List PD) : ∀ k, (enP k l).length = l.length := by
  induction l with
  | nil => intro k; rfl
  | cons p l ih => intro k; simp [enP, ih]
theorem enD_len (l : List OD) : ∀ k, (enD k l).length = l.length := by
  induction l with
  | nil => intro k; rfl
  | cons p l ih => intro k; simp [enD, ih]
theorem enP_get (l : List PD) : ∀ {k i : Nat} {p : PD}, (enP k l)[i]? = some p → ∃ q, l[i]? = some q ∧ p = .tup [.int ((k + i : Nat) : Int), q] := by
  induction l with
  | nil => intro k i p h; simp [enP] at h
  | cons p l ih =>
    intro k i q h
    cases i with
    | zero => simp [enP] at h; exact ⟨p, rfl, h.symm⟩
    | succ i =>
      simp only [enP, List.getElem?_cons_succ] at h
      obtain ⟨r, a, b⟩ := ih h
      refine ⟨r, by simpa using a, ?_⟩
      rw [b]
      have e : k + 1 + i = k + (i + 1) := by omega
      rw [e]
theorem enD_get (l : List OD) : ∀ {k i : Nat} {p : OD}, (enD k l)[i]? = some p → ∃ q, l[i]? = some q ∧ p = .ot [.pl (.int ((k + i : Nat) : Int)), q] := by
  induction l with
  | nil => intro k i p h; simp [enD] at h
  | cons p l ih =>
    intro k i q h
    cases i with
    | zero => simp [enD] at h; exact ⟨p, rfl, h.symm⟩
    | succ i =>
      simp only [enD, List.getElem?_cons_succ] at h
      obtain ⟨r, a, b⟩ := ih h
      refine ⟨r, by simpa using a, ?_⟩
      rw [b]
      have e : k + 1 + i = k + (i + 1) := by omega
      rw [e]
theorem plL_len (l : List PD) : (plL l).length = l.length := by
  induction l with
  | nil => rfl
  | cons p l ih => simp [plL, ih]
theorem plL_get (l : List PD) : ∀ {i : Nat} {d : OD}, (plL l)[i]? = some d → ∃ p, l[i]? = some p ∧ d = .pl p := by
  induction l with
  | nil => intro i d h; simp [plL] at h
  | cons p l ih =>
    intro i d h
    cases i with
    | zero => simp [plL] at h; exact ⟨p, rfl, h.symm⟩
    | succ i =>
      simp only [plL, List.getElem?_cons_succ] at h
      obtain ⟨r, a, b⟩ := ih h
      exact ⟨r, by simpa using a, b⟩
section
variable {X : Cx} {T : Tb} {W : WX} {K : PySem.W.Frag} {Z Z' : Addr → Prop} {H H' : Hp} {a : Addr} {xs : List V} {l : List OD}
theorem sqL_rd {K : PySem.W.Frag} {H : Hp} {a : Addr} {xs : List V} (h : Rd H a (.lst xs)) : SqL K H a xs := .inl h
theorem sqT_rd {K : PySem.W.Frag} {H : Hp} {a : Addr} {xs : List V} (h : Rd H a (.tup xs)) : SqT K H a xs := .inl h
theorem src_l {Rl : Hp → Prop} (h1 : ∀ H1, Rl H1 → SqL K H1 a xs) (h2 : ∀ H1, Rl H1 → VdL T Z H1 l xs []) : Src T Rl (Itl K a) Z l := fun H1 r => by
  have hl := (h2 H1 r).len
  refine ⟨fun i hi => ⟨xs, h1 H1 r, by omega⟩, fun i d e => ?_⟩
  obtain ⟨x, ex, hv⟩ := (h2 H1 r).get e
  refine ⟨⟨xs, x, h1 H1 r, ex⟩, fun y H' hy => ?_⟩
  obtain ⟨e1, e2⟩ := hy
  subst e1
  have e3 := e2 xs (h1 _ r)
  rw [ex] at e3; cases e3
  exact ⟨fun _ _ e => e, hv⟩
theorem src_t {Rl : Hp → Prop} (h1 : ∀ H1, Rl H1 → SqT K H1 a xs) (h2 : ∀ H1, Rl H1 → VdL T Z H1 l xs []) : Src T Rl (Itt K a) Z l := fun H1 r => by
  have hl := (h2 H1 r).len
  refine ⟨fun i hi => ⟨xs, h1 H1 r, by omega⟩, fun i d e => ?_⟩
  obtain ⟨x, ex, hv⟩ := (h2 H1 r).get e
  refine ⟨⟨xs, x, h1 H1 r, ex⟩, fun y H' hy => ?_⟩
  obtain ⟨e1, e2⟩ := hy
  subst e1
  have e3 := e2 xs (h1 _ r)
  rw [ex] at e3; cases e3
  exact ⟨fun _ _ e => e, hv⟩
theorem src_r {Rl : Hp → Prop} {lo : Int} {n : Nat} : Src T Rl (Itr lo n) Z (plL (rngP lo n)) := fun H1 r => by
  have hl : (plL (rngP lo n)).length = n := by rw [plL_len, rngP_len]
  refine ⟨fun i hi => ?_, fun i d e => ?_⟩
  · show n ≤ i
    omega
  · obtain ⟨p, e1, rfl⟩ := plL_get _ e
    obtain ⟨h1, rfl⟩ := rngP_get _ _ e1
    refine ⟨h1, fun x H' hy => ?_⟩
    obtain ⟨e2, e3⟩ := hy
    subst e2
    exact ⟨fun _ _ e => e, by simp only [Vd, Vw]; exact ⟨trivial, e3⟩⟩
theorem pair_vd {H1 : Hp} {Tt : Addr} {x : V} {i : Nat} {d : OD} (hn : H1 Tt = none) (h : Vd T Z H1 d x []) :
    Same H1 (upd H1 Tt (.tup [.int (i : Nat), x])) ∧ VdL T Z (upd H1 Tt (.tup [.int (i : Nat), x])) [.pl (.int (i : Nat)), d] [.int (i : Nat), x] [] := by
  have sm : Same H1 (upd H1 Tt (.tup [.int (i : Nat), x])) := fun b o e => by rw [upd_ne (ne_of_none e hn)]; exact e
  refine ⟨sm, ?_⟩
  have h' := Vd.same (fun _ z => z) sm h
  simp only [VdL, Vd, Vw]
  exact ⟨_, _, [], [], rfl, rfl, ⟨rfl, rfl⟩, _, _, [], [], rfl, rfl, h', rfl, rfl⟩
theorem src_e {Rl : Hp → Prop} (h1 : ∀ H1, Rl H1 → SqL K H1 a xs) (h2 : ∀ H1, Rl H1 → VdL T Z H1 l xs []) : Src T Rl (Ite K a) Z (enD 0 l) := fun H1 r => by
  have hl := (h2 H1 r).len
  refine ⟨fun i hi => ⟨xs, h1 H1 r, by rw [enD_len] at hi; omega⟩, fun i d e => ?_⟩
  obtain ⟨q, e1, rfl⟩ := enD_get l e
  obtain ⟨x, ex, hv⟩ := (h2 H1 r).get e1
  refine ⟨⟨xs, x, h1 H1 r, ex⟩, fun y H' hy => ?_⟩
  obtain ⟨Tt, x', rfl, hn, rfl, e3⟩ := hy
  have e4 := e3 xs (h1 _ r)
  rw [ex] at e4; cases e4
  obtain ⟨sm, vv⟩ := pair_vd (T := T) (Z := Z) (i := i) hn hv
  refine ⟨sm, ?_⟩
  rw [Nat.zero_add]
  show ∃ a xs, V.ref Tt = .ref a ∧ _ ∧ _
  exact ⟨Tt, _, rfl, Rd.of upd_same, vv⟩
theorem src_et {Rl : Hp → Prop} (h1 : ∀ H1, Rl H1 → SqT K H1 a xs) (h2 : ∀ H1, Rl H1 → VdL T Z H1 l xs []) : Src T Rl (IteT K a) Z (enD 0 l) := fun H1 r => by
  have hl := (h2 H1 r).len
  refine ⟨fun i hi => ⟨xs, h1 H1 r, by rw [enD_len] at hi; omega⟩, fun i d e => ?_⟩
  obtain ⟨q, e1, rfl⟩ := enD_get l e
  obtain ⟨x, ex, hv⟩ := (h2 H1 r).get e1
  refine ⟨⟨xs, x, h1 H1 r, ex⟩, fun y H' hy => ?_⟩
  obtain ⟨Tt, x', rfl, hn, rfl, e3⟩ := hy
  have e4 := e3 xs (h1 _ r)
  rw [ex] at e4; cases e4
  obtain ⟨sm, vv⟩ := pair_vd (T := T) (Z := Z) (i := i) hn hv
  refine ⟨sm, ?_⟩
  rw [Nat.zero_add]
  show ∃ a xs, V.ref Tt = .ref a ∧ _ ∧ _
  exact ⟨Tt, _, rfl, Rd.of upd_same, vv⟩
end
/-- pairs of plain data are plain -/
theorem Src.plE {T : Tb} {Rl : Hp → Prop} {J : It} {Z : Addr → Prop} {l : List PD} (h : Src T Rl J Z (enD 0 (plL l))) : Src T Rl J Z (plL (enP 0 l)) := fun H1 r => by
  obtain ⟨a, b⟩ := h H1 r
  refine ⟨fun i hi => a i (by rw [enD_len, plL_len]; rw [plL_len, enP_len] at hi; exact hi), fun i d e => ?_⟩
  obtain ⟨p, e1, rfl⟩ := plL_get _ e
  obtain ⟨q, e2, rfl⟩ := enP_get l e1
  have e3 : (enD 0 (plL l))[i]? = some (.ot [.pl (.int ((0 + i : Nat) : Int)), .pl q]) := by
    have hl : i < (enD 0 (plL l)).length := by
      rw [enD_len, plL_len]
      exact (List.getElem?_eq_some_iff.mp e2).1
    obtain ⟨d, hd⟩ : ∃ d, (enD 0 (plL l))[i]? = some d := ⟨_, List.getElem?_eq_getElem hl⟩
    obtain ⟨q', e4, rfl⟩ := enD_get _ hd
    obtain ⟨p', e5, rfl⟩ := plL_get _ e4
    rw [e2] at e5; cases e5
    exact hd
  obtain ⟨g, y⟩ := b i _ e3
  refine ⟨g, fun x H' hy => ?_⟩
  obtain ⟨s, v⟩ := y x H' hy
  refine ⟨s, ?_⟩
  simp only [Vd, VdL] at v
  obtain ⟨a', xs, e, rd, x1, r1, B1, B2, ex, eb, ⟨eb1, hv⟩, x2, r2, B3, B4, ex2, eb2, ⟨eb3, hv2⟩, er, eb4⟩ := v
  simp only [Vd, Vw, VwL]
  exact ⟨trivial, a', xs, e, rd, x1, r1, ex, by simpa only [Vw] using hv, x2, r2, ex2, hv2, er⟩
end Rq
end

section
set_option Elab.async false
set_option linter.all false
set_option maxRecDepth 100000
set_option maxHeartbeats 1000000
namespace Rq
open PySem PySem.Spec PyProof.Rows L2

inductive Is where
  | ok (l : List PD) (ρ : En) | ex (k : Nat) (p : PD) (ρ : En) | st
def tIV (T : Tb) (s : En → Option (List OD)) : TI := fun σ H R => ∃ Z F ρ l, Ev T Z H ρ σ F ∧ s ρ = some l ∧
  ∀ J Z' H', Same H H' → (∀ a, Z a → Z' a) → (∀ a, Z' a → Z a ∨ H a = none) → Zx Z' H' → Src T (Same H') J Z' l → l.length ≤ sizeLine → R J H'
def tIE (T : Tb) (W : WX) (s : En → Is) : TI := fun σ H R => ∃ Z F ρ, Ev T Z H ρ σ F ∧ NoA ρ ∧ match s ρ with
  | .ok l ρ' => ∀ J Z' H' F', Nx T Z H F Z' H' ρ' σ F' [] → Src T (Kp Z' H') J Z' (plL l) → l.length ≤ sizeLine → R J H'
  | .ex k p ρ' => ∀ c dd Z' H' F', Nx T Z H F Z' H' ρ' σ F' [] → Exq T Z' H' k p c dd → W c dd σ H'
  | .st => False
theorem pi_imp {X : Cx} {tg e : Expr} {t t' : TI} (h : PI X tg e t) (i : ∀ σ H R, t' σ H R → t σ H R) : PI X tg e t' := ⟨fun pins s σ H R I q => h.run pins s σ H R I (i σ H R q)⟩

/-! ### sources -/
def sSeq (m : VM) : En → Option (List OD) := fun ρ => (m ρ).bind OD.kids
def sEn (m : VM) : En → Option (List OD) := fun ρ => (m ρ).bind fun d => d.kids.map (enD 0)
def rOk (j : Int) : Bool := decide (-16777216 ≤ j) && decide (j ≤ 16777216)
theorem rOk_iff {j : Int} (h : rOk j = true) : -(2 ^ 62) ≤ j ∧ j < 2 ^ 62 := by
  unfold rOk at h
  simp only [Bool.and_eq_true, decide_eq_true_eq] at h
  omega
theorem rOk_len {i j : Int} (h : rOk i = true) (h' : rOk j = true) (c : decide (j - i ≤ 16777216) = true) : (rngP i (j - i).toNat).length ≤ sizeLine := by
  simp only [decide_eq_true_eq] at c
  rw [rngP_len, sizeLine_eq]
  omega
theorem rOk_len0 {j : Int} (h : rOk j = true) : (rngP 0 j.toNat).length ≤ sizeLine := by
  unfold rOk at h
  simp only [Bool.and_eq_true, decide_eq_true_eq] at h
  rw [rngP_len, sizeLine_eq]
  omega
def sR1 (m : VM) : En → Option (List OD) := fun ρ => match m ρ with
  | some (.pl (.int j)) => if rOk j = true then some (plL (rngP 0 j.toNat)) else none
  | _ => none
def sR2 (m m2 : VM) : En → Option (List OD) := fun ρ => match m ρ, m2 ρ with
  | some (.pl (.int i)), some (.pl (.int j)) => if rOk i = true ∧ rOk j = true ∧ decide (j - i ≤ 16777216) = true then some (plL (rngP i (j - i).toNat)) else none
  | _, _ => none
def sSeqE (m : EM) : En → Is := fun ρ => match m ρ with
  | .ok d ρ' => match d.toP.kids with
    | some l => .ok l ρ'
    | none => .st
  | .ex k p ρ' => .ex k p ρ'
  | .st => .st
def sEnE (m : EM) : En → Is := fun ρ => match m ρ with
  | .ok d ρ' => match d.toP.kids with
    | some l => .ok (enP 0 l) ρ'
    | none => .st
  | .ex k p ρ' => .ex k p ρ'
  | .st => .st
def sR1E (m : EM) : En → Is := fun ρ => match m ρ with
  | .ok (.pl (.int j)) ρ' => if rOk j = true then .ok (rngP 0 j.toNat) ρ' else .st
  | .ok _ _ => .st
  | .ex k p ρ' => .ex k p ρ'
  | .st => .st
def sR2E (m m2 : EM) : En → Is := fun ρ => match m ρ with
  | .ok (.pl (.int i)) ρ' => (match m2 ρ' with
    | .ok (.pl (.int j)) ρ2 => if rOk i = true ∧ rOk j = true ∧ decide (j - i ≤ 16777216) = true then .ok (rngP i (j - i).toNat) ρ2 else .st
    | .ok _ _ => .st
    | .ex k p ρ' => .ex k p ρ'
    | .st => .st)
  | .ok _ _ => .st
  | .ex k p ρ' => .ex k p ρ'
  | .st => .st
section
variable {X : Cx} {T : Tb} {W : WX} {tg : Expr}
theorem kids_nil (d : OD) (l : List OD) (h : d.kids = some l) (v : V) (T : Tb) (Z : Addr → Prop) (H : Hp) (B : List Addr) (hv : Vd T Z H d v B) : True := trivial
theorem piv_seq {e : Expr} {m : VM} (hl : PE X e (tV T m)) : PI X tg e (tIV T (sSeq m)) := pi_imp (pi_sq hl) fun σ H R q => by
  obtain ⟨Z, F, ρ, l, E, e1, q⟩ := q
  unfold sSeq at e1
  cases e2 : m ρ with
  | none => rw [e2] at e1; cases e1
  | some d =>
    rw [e2] at e1
    refine ⟨Z, F, ρ, d, E, e2, fun v Z' H' B n => ?_⟩
    obtain ⟨a, xs, ev, rd, hv⟩ := n.vd.kids e1
    have dn : ∀ a, Z' a → Z a ∨ H a = none := fun a z => (n.dn a z).imp_right fun z => z.elim (fun z => (nomatch z)) id
    refine ⟨a, xs, ev, ?_⟩
    rcases rd with rd | rd
    · exact .inl ⟨sqL_rd rd, q _ Z' H' n.same n.up dn n.zx (src_l (fun H1 s => sqL_rd (Same.rd s rd)) fun H1 s => VdL.same (fun _ z => z) s hv) ∘ (fun (z : xs.length ≤ sizeLine) => by rw [← hv.len]; exact z)⟩
    · exact .inr ⟨sqT_rd rd, q _ Z' H' n.same n.up dn n.zx (src_t (fun H1 s => sqT_rd (Same.rd s rd)) fun H1 s => VdL.same (fun _ z => z) s hv) ∘ (fun (z : xs.length ≤ sizeLine) => by rw [← hv.len]; exact z)⟩
theorem piv_en {e : Expr} {m : VM} {p pos tpos : Pos} {elts : List Expr} {kk : Nat} (hl : PE X e (tV T m)) (hg : Gl X "enumerate") (hm : X.mg "enumerate" = none) (hs : starEach [e] X.env = [(false, eval e X.env)] := by rfl)
    (hs2 : starEach [e] X.env = (false, eval e X.env) :: starEach [] X.env := by rfl) :
    PI X (.Tuple elts kk tpos) (.Call (.Name "enumerate" p) [e] [] pos) (tIV T (sEn m)) := pi_imp (pi_enumS hg hm (pa_cons hl pa_nil hs2) hs) fun σ H R q => by
  obtain ⟨Z, F, ρ, l, E, e1, q⟩ := q
  unfold sEn at e1
  cases e2 : m ρ with
  | none => rw [e2] at e1; cases e1
  | some d =>
    rw [e2] at e1
    refine ⟨Z, F, ρ, d, E, e2, fun v Z' H' B n => ?_⟩
    simp only [Option.bind_some] at e1
    cases e3 : d.kids with
    | none => rw [e3] at e1; cases e1
    | some l' =>
      rw [e3] at e1
      simp only [Option.map_some, Option.some.injEq] at e1
      subst e1
      obtain ⟨a, xs, ev, rd, hv⟩ := n.vd.kids e3
      have dn : ∀ a, Z' a → Z a ∨ H a = none := fun a z => (n.dn a z).imp_right fun z => z.elim (fun z => (nomatch z)) id
      refine ⟨a, xs, by rw [ev], ?_⟩
      rcases rd with rd | rd
      · exact .inl ⟨sqL_rd rd, q _ Z' H' n.same n.up dn n.zx (src_e (fun H1 s => sqL_rd (Same.rd s rd)) fun H1 s => VdL.same (fun _ z => z) s hv) ∘ (fun (z : xs.length ≤ sizeLine) => by rw [enD_len, ← hv.len]; exact z)⟩
      · exact .inr ⟨sqT_rd rd, q _ Z' H' n.same n.up dn n.zx (src_et (fun H1 s => sqT_rd (Same.rd s rd)) fun H1 s => VdL.same (fun _ z => z) s hv) ∘ (fun (z : xs.length ≤ sizeLine) => by rw [enD_len, ← hv.len]; exact z)⟩
theorem piv_r1 {e : Expr} {m : VM} {p pos : Pos} (hl : PE X e (tV T m)) (hg : Gl X "range") (hm : X.mg "range" = none) (hs : starEach [e] X.env = [(false, eval e X.env)] := by rfl)
    (hs2 : starEach [e] X.env = (false, eval e X.env) :: starEach [] X.env := by rfl) : PI X tg (.Call (.Name "range" p) [e] [] pos) (tIV T (sR1 m)) := pi_imp (pi_range1 hg hm (pa_cons hl pa_nil hs2) hs) fun σ H R q => by
  obtain ⟨Z, F, ρ, l, E, e1, q⟩ := q
  unfold sR1 at e1
  split at e1
  · rename_i j e2
    split at e1
    · rename_i c
      cases e1
      refine ⟨Z, F, ρ, _, E, e2, fun v Z' H' B n => ?_⟩
      obtain ⟨b1, b2⟩ := rOk_iff c
      refine ⟨j, by rw [int_of n.vd], b1, b2, q _ Z' H' n.same n.up (fun a z => (n.dn a z).imp_right fun z => z.elim (fun z => (nomatch z)) id) n.zx src_r (by rw [plL_len]; exact rOk_len0 c)⟩
    · cases e1
  · cases e1
theorem piv_r2 {e e' : Expr} {m m2 : VM} {p pos : Pos} (hl : PE X e (tV T m)) (hl2 : PE X e' (tV T m2)) (hg : Gl X "range") (hm : X.mg "range" = none) (hs : starEach [e, e'] X.env = [(false, eval e X.env), (false, eval e' X.env)] := by rfl) (hs2 : starEach [e'] X.env = [(false, eval e' X.env)] := by rfl)
    (hs3 : starEach [e, e'] X.env = (false, eval e X.env) :: starEach [e'] X.env := by rfl) (hs4 : starEach [e'] X.env = (false, eval e' X.env) :: starEach [] X.env := by rfl) :
    PI X tg (.Call (.Name "range" p) [e, e'] [] pos) (tIV T (sR2 m m2)) := pi_imp (pi_range2 hg hm (pa_cons hl (pa_cons hl2 pa_nil hs4) hs3) hs hs2) fun σ H R q => by
  obtain ⟨Z, F, ρ, l, E, e1, q⟩ := q
  unfold sR2 at e1
  split at e1
  · rename_i i j e2 e3
    split at e1
    · rename_i c
      cases e1
      refine ⟨Z, F, ρ, _, E, e2, fun v Z1 H1 B1 n => ?_⟩
      refine ⟨Z1, F, ρ, _, n.ev E (fun _ m => (nomatch m)), e3, fun v2 Z2 H2 B2 n2 => ?_⟩
      obtain ⟨b1, b2⟩ := rOk_iff c.1
      obtain ⟨b3, b4⟩ := rOk_iff c.2.1
      have w1 := int_of n.vd
      have w2 := int_of n2.vd
      subst w1; subst w2
      refine ⟨i, j, rfl, ⟨b1, b2, b3, b4⟩, q _ Z2 H2 (n.same.trans n2.same) (fun a z => n2.up a (n.up a z)) (fun a z => ?_) n2.zx src_r (by rw [plL_len]; exact rOk_len c.1 c.2.1 c.2.2)⟩
      rcases n2.dn a z with z | z | z
      · exact (n.dn a z).imp_right fun z => z.elim (fun z => (nomatch z)) id
      · exact nomatch z
      · exact .inr (n.same.free z)
    · cases e1
  · cases e1
/-- frozen and walked -/
theorem pie_seq {e : Expr} {m : EM} (hl : PE X e (tE T W m)) : PI X tg e (tIE T W (sSeqE m)) := pi_imp (pi_sq hl) fun σ H R q => by
  obtain ⟨Z, F, ρ, E, na, q⟩ := q
  refine tE_of E na ?_
  unfold sSeqE at q
  cases e1 : m ρ with
  | st => rw [e1] at q; exact q.elim
  | ex k p ρ' => rw [e1] at q; exact q
  | ok d ρ' =>
    rw [e1] at q
    intro v Z' H' F' B n hv nd
    have y := Ny.frz n.ev.zx hv nd
    have nn := Ny.nx E n hv.foot y
    dsimp only at q
    cases e2 : d.toP.kids with
    | none => rw [e2] at q; exact q.elim
    | some l =>
      rw [e2] at q
      have w := y.vd
      simp only [Vd] at w
      obtain ⟨a, xs, ev, rd, ww⟩ := w.2.kids e2
      refine ⟨a, xs, ev, ?_⟩
      rcases rd with ⟨rd, z⟩ | rd
      · exact .inl ⟨sqL_rd rd, q _ _ H' F' nn (src_l (fun H1 k => sqL_rd (k.rd z rd)) fun H1 k => VwL.pl (VwL.mono k (fun _ z => z) ww)) ∘ (fun (z : xs.length ≤ sizeLine) => by rw [← plL_len, ← (VwL.pl ww).len]; exact z)⟩
      · exact .inr ⟨sqT_rd rd, q _ _ H' F' nn (src_t (fun H1 k => sqT_rd (k.rdT rd)) fun H1 k => VwL.pl (VwL.mono k (fun _ z => z) ww)) ∘ (fun (z : xs.length ≤ sizeLine) => by rw [← plL_len, ← (VwL.pl ww).len]; exact z)⟩
theorem pie_en {e : Expr} {m : EM} {p pos tpos : Pos} {elts : List Expr} {kk : Nat} (hl : PE X e (tE T W m)) (hg : Gl X "enumerate") (hm : X.mg "enumerate" = none) (hs : starEach [e] X.env = [(false, eval e X.env)] := by rfl)
    (hs2 : starEach [e] X.env = (false, eval e X.env) :: starEach [] X.env := by rfl) :
    PI X (.Tuple elts kk tpos) (.Call (.Name "enumerate" p) [e] [] pos) (tIE T W (sEnE m)) := pi_imp (pi_enumS hg hm (pa_cons hl pa_nil hs2) hs) fun σ H R q => by
  obtain ⟨Z, F, ρ, E, na, q⟩ := q
  refine tE_of E na ?_
  unfold sEnE at q
  cases e1 : m ρ with
  | st => rw [e1] at q; exact q.elim
  | ex k p ρ' => rw [e1] at q; exact q
  | ok d ρ' =>
    rw [e1] at q
    intro v Z' H' F' B n hv nd
    have y := Ny.frz n.ev.zx hv nd
    have nn := Ny.nx E n hv.foot y
    dsimp only at q
    cases e2 : d.toP.kids with
    | none => rw [e2] at q; exact q.elim
    | some l =>
      rw [e2] at q
      have w := y.vd
      simp only [Vd] at w
      obtain ⟨a, xs, ev, rd, ww⟩ := w.2.kids e2
      refine ⟨a, xs, by rw [ev], ?_⟩
      rcases rd with ⟨rd, z⟩ | rd
      · exact .inl ⟨sqL_rd rd, q _ _ H' F' nn (Src.plE (src_e (fun H1 k => sqL_rd (k.rd z rd)) fun H1 k => VwL.pl (VwL.mono k (fun _ z => z) ww))) ∘ (fun (z : xs.length ≤ sizeLine) => by rw [enP_len, ← plL_len, ← (VwL.pl ww).len]; exact z)⟩
      · exact .inr ⟨sqT_rd rd, q _ _ H' F' nn (Src.plE (src_et (fun H1 k => sqT_rd (k.rdT rd)) fun H1 k => VwL.pl (VwL.mono k (fun _ z => z) ww))) ∘ (fun (z : xs.length ≤ sizeLine) => by rw [enP_len, ← plL_len, ← (VwL.pl ww).len]; exact z)⟩
theorem pie_r1 {e : Expr} {m : EM} {p pos : Pos} (hl : PE X e (tE T W m)) (hg : Gl X "range") (hm : X.mg "range" = none) (hs : starEach [e] X.env = [(false, eval e X.env)] := by rfl)
    (hs2 : starEach [e] X.env = (false, eval e X.env) :: starEach [] X.env := by rfl) : PI X tg (.Call (.Name "range" p) [e] [] pos) (tIE T W (sR1E m)) := pi_imp (pi_range1 hg hm (pa_cons hl pa_nil hs2) hs) fun σ H R q => by
  obtain ⟨Z, F, ρ, E, na, q⟩ := q
  refine tE_of E na ?_
  unfold sR1E at q
  cases e1 : m ρ with
  | st => rw [e1] at q; exact q.elim
  | ex k p ρ' => rw [e1] at q; exact q
  | ok d ρ' =>
    rw [e1] at q
    intro v Z' H' F' B n hv nd
    cases d with
    | pl p =>
      cases p with
      | int j =>
        dsimp only at q
        by_cases c : rOk j = true
        · rw [if_pos c] at q
          obtain ⟨b1, b2⟩ := rOk_iff c
          exact ⟨j, by rw [int_of hv], b1, b2, q _ Z' H' F' n.nil src_r (rOk_len0 c)⟩
        · rw [if_neg c] at q
          exact q.elim
      | _ => exact q.elim
    | _ => exact q.elim
theorem pie_r2 {e e' : Expr} {m m2 : EM} {p pos : Pos} (hl : PE X e (tE T W m)) (hl2 : PE X e' (tE T W m2)) (hg : Gl X "range") (hm : X.mg "range" = none) (hs : starEach [e, e'] X.env = [(false, eval e X.env), (false, eval e' X.env)] := by rfl) (hs2 : starEach [e'] X.env = [(false, eval e' X.env)] := by rfl)
    (hs3 : starEach [e, e'] X.env = (false, eval e X.env) :: starEach [e'] X.env := by rfl) (hs4 : starEach [e'] X.env = (false, eval e' X.env) :: starEach [] X.env := by rfl) :
    PI X tg (.Call (.Name "range" p) [e, e'] [] pos) (tIE T W (sR2E m m2)) := pi_imp (pi_range2 hg hm (pa_cons hl (pa_cons hl2 pa_nil hs4) hs3) hs hs2) fun σ H R q => by
  obtain ⟨Z, F, ρ, E, na, q⟩ := q
  refine tE_of E na ?_
  unfold sR2E at q
  cases e1 : m ρ with
  | st => rw [e1] at q; exact q.elim
  | ex k p ρ' => rw [e1] at q; exact q
  | ok d ρ1 =>
    rw [e1] at q
    intro v Z1 H1 F1 B n hv nd
    cases d with
    | pl p =>
      cases p with
      | int i =>
        dsimp only at q
        refine tE_of n.ev n.na ?_
        cases e2 : m2 ρ1 with
        | st => rw [e2] at q; exact q.elim
        | ex k p ρ' =>
          rw [e2] at q
          intro c dd Z' H' F' n2 hx
          exact q c dd Z' H' F' (Nx.tr E n n2) hx
        | ok d2 ρ2 =>
          rw [e2] at q
          intro v2 Z2 H2 F2 B2 n2 hv2 nd2
          cases d2 with
          | pl p2 =>
            cases p2 with
            | int j =>
              dsimp only at q
              by_cases c : rOk i = true ∧ rOk j = true ∧ decide (j - i ≤ 16777216) = true
              · rw [if_pos c] at q
                obtain ⟨b1, b2⟩ := rOk_iff c.1
                obtain ⟨b3, b4⟩ := rOk_iff c.2.1
                have w1 := int_of hv
                have w2 := int_of hv2
                subst w1; subst w2
                exact ⟨i, j, rfl, ⟨b1, b2, b3, b4⟩, q _ Z2 H2 F2 (Nx.tr E n n2).nil src_r (rOk_len c.1 c.2.1 c.2.2)⟩
              · rw [if_neg c] at q
                exact q.elim
            | _ => exact q.elim
          | _ => exact q.elim
      | _ => exact q.elim
    | _ => exact q.elim
end

/-! ### targets: vs, the names that they bind -/
def OD.isPl : OD → Bool
  | .pl _ => true
  | _ => false
def allPl : List OD → Bool
  | [] => true
  | d :: l => d.isPl && allPl l
theorem isPl_noAl {d : OD} (h : d.isPl = true) : d.noAl = true := by
  cases d <;> first | rfl | cases h
theorem plL_isPl : ∀ {l : List PD}, allPl (plL l) = true
  | [] => rfl
  | p :: ps => by simp [plL, allPl, OD.isPl, plL_isPl]
def tG (T : Tb) (vs : List Nat) (g : OD → En → Option En) : TG := fun v σ H Q => ∃ Z F ρ d ρ', Ev T Z H ρ σ F ∧ Vd T Z H d v [] ∧ g d ρ = some ρ' ∧
  ∀ σ' F', Ev T Z H ρ' σ' F' → (∀ i a, a ∈ F' i → a ∈ F i) → (NoA ρ → d.isPl = true → NoA ρ') → (∀ i, i ∉ vs → σ'[i]? = σ[i]?) → σ'.length = σ.length → Q σ' H
def tGs (T : Tb) (vs : List Nat) (g : List OD → En → Option En) : TGs := fun xs σ H Q => ∃ Z F ρ l ρ', Ev T Z H ρ σ F ∧ VdL T Z H l xs [] ∧ g l ρ = some ρ' ∧
  ∀ σ' F', Ev T Z H ρ' σ' F' → (∀ i a, a ∈ F' i → a ∈ F i) → (NoA ρ → allPl l = true → NoA ρ') → (∀ i, i ∉ vs → σ'[i]? = σ[i]?) → σ'.length = σ.length → Q σ' H
theorem pg_imp {X : Cx} {e : Expr} {t t' : TG} (h : PG X e t) (i : ∀ v σ H Q, t' v σ H Q → t v σ H Q) : PG X e t' := ⟨fun pins s σ H v u Q I r q => h.run pins s σ H v u Q I r (i v σ H Q q)⟩
theorem pgs_imp {X : Cx} {e : List Expr} {t t' : TGs} (h : PGs X e t) (i : ∀ v σ H Q, t' v σ H Q → t v σ H Q) : PGs X e t' := ⟨fun pins s σ H v u Q I r q => h.run pins s σ H v u Q I r (i v σ H Q q)⟩
def gN (i : Nat) : OD → En → Option En := fun d ρ => some (ρ.set i (some d))
def gNil : List OD → En → Option En := fun l ρ => match l with
  | [] => some ρ
  | _ => none
def gCons (g : OD → En → Option En) (gs : List OD → En → Option En) : List OD → En → Option En := fun l ρ => match l with
  | d :: l => (g d ρ).bind (gs l)
  | _ => none
def gT (gs : List OD → En → Option En) : OD → En → Option En := fun d ρ => d.kidsT.bind fun l => gs l ρ
section
variable {X : Cx} {T : Tb} {vs : List Nat}
theorem fg_name {i : Nat} {x : Str} {pos : Pos} (hN : X.N.Nodup) (hn : X.N[i]? = some x) (hx : Loc X.env.scope x) (hv : i ∈ vs) (hf : X.fn x = true ∨ X.env.scope.names.lookup x = some .local := by first | exact .inl rfl | exact .inr rfl | assumption) :
    PG X (.Name x pos) (tG T vs (gN i)) := pg_imp (pg_name hN hn hx hf) fun v σ H Q q => by
  obtain ⟨Z, F, ρ, d, ρ', E, hd, e, q⟩ := q
  unfold gN at e
  cases e
  show Q (σ.set i (some v)) H
  by_cases hi : i < ρ.length
  · refine q _ (updF F i []) (E.set hi hd List.nodup_nil (fun _ m => (nomatch m)) (fun _ m => (nomatch m))) (fun j a m => ?_) (fun na h => na.set (isPl_noAl h)) (fun j hj => List.getElem?_set_ne (by intro e; subst e; exact hj hv)) (by simp)
    unfold updF at m
    by_cases c : j = i
    · rw [if_pos c] at m; cases m
    · rw [if_neg c] at m; exact m
  · refine q _ F ?_ (fun _ _ m => m) (fun na h => na.set (isPl_noAl h)) (fun j hj => List.getElem?_set_ne (by intro e; subst e; exact hj hv)) (by simp)
    rw [set_big hi, set_big (by rw [← E.ln]; exact hi)]
    exact E
theorem fg_nil : PGs X [] (tGs T vs gNil) := pgs_imp pgs_nil fun xs σ H Q q => by
  obtain ⟨Z, F, ρ, l, ρ', E, hd, e, q⟩ := q
  unfold gNil at e
  cases l with
  | nil =>
    cases e
    simp only [VdL] at hd
    exact ⟨hd.1, q σ F E (fun _ _ m => m) (fun na _ => na) (fun _ _ => rfl) rfl⟩
  | cons d l => cases e
theorem fg_cons {e : Expr} {es : List Expr} {g : OD → En → Option En} {gs : List OD → En → Option En} (h1 : PG X e (tG T vs g)) (h2 : PGs X es (tGs T vs gs))
    (hs : (assignEach (e :: es) X.env).map (·.2) = assign e X.env :: (assignEach es X.env).map (·.2) := by rfl) : PGs X (e :: es) (tGs T vs (gCons g gs)) := pgs_imp (pgs_cons h1 h2 hs) fun xs σ H Q q => by
  obtain ⟨Z, F, ρ, l, ρ', E, hd, e, q⟩ := q
  unfold gCons at e
  cases l with
  | nil => cases e
  | cons d l =>
    simp only [VdL] at hd
    obtain ⟨x, r, B1, B2, ex, eb, hx, hr⟩ := hd
    obtain ⟨rfl, rfl⟩ : B1 = [] ∧ B2 = [] := List.append_eq_nil_iff.mp eb.symm
    subst ex
    dsimp only at e
    cases e1 : g d ρ with
    | none => rw [e1] at e; cases e
    | some ρ1 =>
      rw [e1] at e
      refine ⟨x, r, rfl, Z, F, ρ, d, ρ1, E, hx, e1, fun σ1 F1 E1 f1 n1 k1 l1 => ?_⟩
      refine ⟨Z, F1, ρ1, l, ρ', E1, hr, e, fun σ2 F2 E2 f2 n2 k2 l2 => ?_⟩
      refine q σ2 F2 E2 (fun i a m => f1 i a (f2 i a m)) (fun na nl => ?_) (fun i hi => (k2 i hi).trans (k1 i hi)) (l2.trans l1)
      simp only [allPl, Bool.and_eq_true] at nl
      exact n2 (n1 na nl.1) nl.2
theorem fg_tup {es : List Expr} {k : Nat} {pos : Pos} {gs : List OD → En → Option En} {n : Nat} (hc : X.calm = true) (h : PGs X es (tGs T vs gs)) (hl : ∀ l ρ ρ', gs l ρ = some ρ' → l.length = n) (hn : (assignEach es X.env).length = n := by rfl) (hst : (assignEach es X.env).findIdx? (·.1) = none := by rfl) :
    PG X (.Tuple es k pos) (tG T vs (gT gs)) := pg_imp (pg_tup hc h hn hst) fun v σ H Q q => by
  obtain ⟨Z, F, ρ, d, ρ', E, hd, e, q⟩ := q
  unfold gT at e
  cases e1 : d.kidsT with
  | none => rw [e1] at e; cases e
  | some l =>
    rw [e1] at e
    obtain ⟨a, xs, ev, rd, hv⟩ := hd.kidsT e1
    refine ⟨a, xs, ev, sqT_rd rd, by rw [hv.len]; exact hl l ρ ρ' e, Z, F, ρ, l, ρ', E, hv, e, fun σ2 F2 E2 f2 n2 k2 l2 => q σ2 F2 E2 f2 (fun na nl => n2 na ?_) k2 l2⟩
    cases d with
    | pl p =>
      cases p with
      | tup l' =>
        simp only [OD.kidsT, Option.some.injEq] at e1
        subst e1
        exact plL_isPl
      | _ => simp [OD.kidsT] at e1
    | _ => cases nl
theorem gNil_len : ∀ l ρ ρ', gNil l ρ = some ρ' → l.length = 0 := fun l ρ ρ' h => by
  cases l with
  | nil => rfl
  | cons d l => cases h
theorem gCons_len {g : OD → En → Option En} {gs : List OD → En → Option En} {n : Nat} (hl : ∀ l ρ ρ', gs l ρ = some ρ' → l.length = n) : ∀ l ρ ρ', gCons g gs l ρ = some ρ' → l.length = n + 1 := fun l ρ ρ' h => by
  cases l with
  | nil => cases h
  | cons d l =>
    unfold gCons at h
    dsimp only at h
    cases e1 : g d ρ with
    | none => rw [e1] at h; cases h
    | some ρ1 => rw [e1] at h; simp [hl _ _ _ h]
/-- a target of names bound to a value: frozen ahead -/
def bAsg (g : OD → En → Option En) (m : EM) : SM := fun ρ => match m ρ with
  | .ok d ρ1 => match g (.pl d.toP) ρ1 with
    | some ρ2 => .nx ρ2
    | none => .st
  | .ex k p ρ1 => .ex k p ρ1
  | .st => .st
end
section
variable {X : Cx} {T : Tb} {W : WX} {ln vs : List Nat} {D : Ends} {Z Z1 : Addr → Prop} {H H1 : Hp} {F F1 : Nat → List Addr} {σ σ1 : L2.St} {ρ ρ1 : En}
/-- behind a target's store -/
theorem Nx.asg {ρ2 : En} {σ2 : L2.St} {F2 : Nat → List Addr} (n : Nx T Z H F Z1 H1 ρ1 σ1 F1 []) (E2 : Ev T Z1 H1 ρ2 σ2 F2) (f : ∀ i a, a ∈ F2 i → a ∈ F1 i) (na : NoA ρ2) : Nx T Z H F Z1 H1 ρ2 σ2 F2 [] :=
  ⟨n.keep, n.dom, n.up, n.dn, fun a m => n.own a (m.elim (fun m => (nomatch m)) fun ⟨i, m⟩ => .inr ⟨i, f i a m⟩), E2, na, List.nodup_nil, fun _ m => (nomatch m), fun _ m => (nomatch m)⟩
theorem kps_of (hd : ∀ i ∈ ln, i ∉ vs) (h : ∀ i, i ∉ vs → σ1[i]? = σ[i]?) : KpS ln σ σ1 := fun i m => h i (hd i m)
theorem fs_asg {tg e : Expr} {m : EM} {g : OD → En → Option En} {pos : Pos} (he : PE X e (tE T W m)) (hg : PG X tg (tG T vs g)) (hd : ∀ i ∈ ln, i ∉ vs) (hs : swapsWithSole [tg] e pos.line X.env = pure false := by rfl) (hw : swappedStores [tg] e X.env = pure none := by rfl) (h1 : (assignEach [tg] X.env).map (·.2) = [assign tg X.env] := by rfl) :
    PS X (.Assign [tg] e pos) (tS T W ln (bAsg g m)) := ps_imp (ps_asg he hg hs hw h1) fun D σ H h => by
  obtain ⟨Z, F, ρ, E, na, q⟩ := of_tS h
  refine tE_of E na ?_
  unfold bAsg at q
  cases e1 : m ρ with
  | st => rw [e1] at q; exact q
  | ex k p ρ1 =>
    rw [e1] at q
    intro c dd Z' H' F' n hx
    exact q σ c dd Z' H' F' n hx .refl
  | ok d ρ1 =>
    rw [e1] at q
    intro v Z' H' F' B n hv nd
    have y := Ny.frz n.ev.zx hv nd
    have nn := Ny.nx E n hv.foot y
    dsimp only at q
    cases e2 : g (.pl d.toP) ρ1 with
    | none => rw [e2] at q; exact q.elim
    | some ρ2 =>
      rw [e2] at q
      exact ⟨_, F', ρ1, _, ρ2, nn.ev, y.vd, e2, fun σ2 F2 E2 f2 n2 k2 _ => q σ2 _ H' F2 (nn.asg E2 f2 (n2 nn.na rfl)) (kps_of hd k2)⟩

/-! ### for -/
def bLoop (g : OD → En → Option En) (b : SM) : List PD → SM
  | [], ρ => .nx ρ
  | p :: l, ρ => match g (.pl p) ρ with
    | none => .st
    | some ρ1 => match b ρ1 with
      | .nx ρ2 => bLoop g b l ρ2
      | .ct ρ2 => bLoop g b l ρ2
      | .bk ρ2 => .nx ρ2
      | r => r
def bFor (s : En → Is) (g : OD → En → Option En) (b : SM) : SM := fun ρ => match s ρ with
  | .ok l ρ1 => bLoop g b l ρ1
  | .ex k p ρ1 => .ex k p ρ1
  | .st => .st
theorem fs_for {tg iter : Expr} {body : List Stmt} {s : En → Is} {g : OD → En → Option En} {b : SM} {pos : Pos} (hp : PassesOwn (model X.prog X.w) X.A X.env X.xe) (hc : X.calm = true) (hi : PI X tg iter (tIE T W s)) (hg : PG X tg (tG T vs g)) (hd : ∀ i ∈ ln, i ∉ vs) (hb : PSs X body (tS T W ln b))
    (hs : ∀ x, foldedSetIterable iter X.env x = pure x := by intro _; rfl) : PS X (.For tg iter body [] pos) (tS T W ln (bFor s g b)) := ps_imp (ps_for hp hc hi hg hb hs) fun D σ H h => by
  obtain ⟨Z, F, ρ, E, na, q⟩ := of_tS h
  refine ⟨Z, F, ρ, E, na, ?_⟩
  unfold bFor at q
  cases e1 : s ρ with
  | st => rw [e1] at q; exact q
  | ex k p ρ1 =>
    rw [e1] at q
    intro c dd Z' H' F' n hx
    exact q σ c dd Z' H' F' n hx .refl
  | ok l ρ1 =>
    rw [e1] at q
    intro J Z1 H1 F1 n sr _
    dsimp only at q
    have q1 := PostS.tr E n (.refl (ln := ln)) q
    refine ⟨fun i mm σ' H' => mm = l.length - i ∧ i ≤ l.length ∧ ∃ Z' F' ρ', Ev T Z' H' ρ' σ' F' ∧ NoA ρ' ∧ (∀ a, Z1 a → Z' a) ∧ Kp Z1 H1 H' ∧ PostS T W ln D Z' H' F' σ' (bLoop g b (l.drop i) ρ'),
      ⟨_, rfl, Nat.zero_le _, Z1, F1, ρ1, n.ev, n.na, fun _ z => z, fun _ _ e _ => e, q1⟩, ?_⟩
    rintro i mm σ' H' ⟨em, hi, Z', F', ρ', E', na', up, kp, q'⟩
    obtain ⟨hstop, hgo⟩ := sr H' kp
    by_cases hl : i < l.length
    · right
      obtain ⟨p, hp'⟩ : ∃ p, l[i]? = some p := ⟨_, List.getElem?_eq_getElem hl⟩
      have hp2 : (plL l)[i]? = some (.pl p) := by
        obtain ⟨d, hd'⟩ : ∃ d, (plL l)[i]? = some d := ⟨_, List.getElem?_eq_getElem (by rw [plL_len]; exact hl)⟩
        obtain ⟨p', e2, rfl⟩ := plL_get _ hd'
        rw [hp'] at e2; cases e2
        exact hd'
      obtain ⟨go, yl⟩ := hgo i _ hp2
      have ed : l.drop i = p :: l.drop (i + 1) := by
        rw [List.drop_eq_getElem_cons hl]
        congr 1
        exact Option.some.inj ((List.getElem?_eq_getElem hl).symm.trans hp')
      rw [ed] at q'
      unfold bLoop at q'
      refine ⟨go, fun σ2 H2 => ∃ Z2 F2 ρ2, Ev T Z2 H2 ρ2 σ2 F2 ∧ NoA ρ2 ∧ (∀ a, Z1 a → Z2 a) ∧ Kp Z1 H1 H2 ∧ PostS T W ln D Z2 H2 F2 σ2 (bLoop g b (l.drop (i + 1)) ρ2),
        fun σ2 H2 hh => ⟨l.length - (i + 1), by omega, rfl, hl, hh⟩, fun x H2 hy => ?_⟩
      obtain ⟨sm, hv⟩ := yl x H2 hy
      have y2 : Ny T Z' H' [] Z' H2 (.pl p) x [] := ⟨sm, fun _ z => z, fun _ z => .inl z, fun _ m => (nomatch m), List.nodup_nil, fun _ m => (nomatch m), Vd.same up (fun _ _ e => e) hv, fun a z => let ⟨o, e⟩ := E'.zx a z; ⟨o, sm a o e⟩⟩
      have n2 := Ny.toNx E' na' y2
      cases e2 : g (.pl p) ρ' with
      | none => rw [e2] at q'; exact q'.elim
      | some ρ2 =>
        rw [e2] at q'
        refine ⟨Z', F', ρ', .pl p, ρ2, n2.ev, y2.vd, e2, fun σ3 F3 E3 f3 n3 k3 _ => ?_⟩
        have na3 := n3 na' rfl
        have n4 := n2.asg E3 f3 na3
        have kk := kps_of hd k3
        refine tS_of E3 na3 ?_
        dsimp only at q'
        have q2 := PostS.tr E' n4 kk q'
        have kp3 : Kp Z1 H1 H2 := fun a o e c => sm a o (kp a o e c)
        have fin : ∀ {ρ5 : En}, PostS T W ln D Z' H2 F3 σ3 (bLoop g b (l.drop (i + 1)) ρ5) → ∀ σ5 Z5 H5 F5, Nx T Z' H2 F3 Z5 H5 ρ5 σ5 F5 [] → KpS ln σ3 σ5 → ∃ Z2 F2 ρ2, Ev T Z2 H5 ρ2 σ5 F2 ∧ NoA ρ2 ∧ (∀ a, Z1 a → Z2 a) ∧ Kp Z1 H1 H5 ∧ PostS T W ln D Z2 H5 F2 σ5 (bLoop g b (l.drop (i + 1)) ρ2) := fun {ρ5} qq σ5 Z5 H5 F5 n5 k5 =>
          ⟨Z5, F5, ρ5, n5.ev, n5.na, fun a z => n5.up a (up a z), fun a o e c => n5.kp E3 a o (kp3 a o e c) (c.imp_left (up a)), PostS.tr E3 n5 k5 qq⟩
        cases e3 : b ρ2 with
        | nx ρ5 => rw [e3] at q2; exact fun σ5 Z5 H5 F5 n5 k5 => fin q2 σ5 Z5 H5 F5 n5 k5
        | ct ρ5 => rw [e3] at q2; exact fun σ5 Z5 H5 F5 n5 k5 => fin q2 σ5 Z5 H5 F5 n5 k5
        | bk ρ5 => rw [e3] at q2; exact q2
        | rt d ρ5 => rw [e3] at q2; exact q2
        | ex k p ρ5 => rw [e3] at q2; exact q2
        | st => rw [e3] at q2; exact q2
    · left
      refine ⟨hstop i (by rw [plL_len]; omega), ?_⟩
      rw [List.drop_eq_nil_of_le (by omega)] at q'
      unfold bLoop at q'
      exact q' σ' Z' H' F' (Nx.refl E' na') .refl
end
end Rq
end

section
set_option Elab.async false
set_option linter.all false
set_option maxRecDepth 100000
set_option maxHeartbeats 1000000
namespace Rq
open PySem PySem.Spec PyProof.Rows L2

/-! ## comprehensions -/
def wipeE (ρ : En) : List Nat → En
  | [] => ρ
  | v :: vs => (wipeE ρ vs).set v none
section
variable {T : Tb} {Z : Addr → Prop} {H : Hp} {F : Nat → List Addr} {σ σ' : L2.St} {ρ : En}
theorem Ev.wipe (E : Ev T Z H ρ σ F) : ∀ vs : List Nat, ∃ F', Ev T Z H (wipeE ρ vs) (wipe σ vs) F' ∧ ∀ i a, a ∈ F' i → a ∈ F i
  | [] => ⟨F, E, fun _ _ m => m⟩
  | v :: vs => by
    obtain ⟨F', E', f⟩ := Ev.wipe E vs
    refine ⟨updF F' v [], E'.drop, fun i a m => ?_⟩
    unfold updF at m
    by_cases c : i = v
    · rw [if_pos c] at m; cases m
    · rw [if_neg c] at m; exact f i a m
theorem NoA.wipe (na : NoA ρ) : ∀ vs : List Nat, NoA (wipeE ρ vs)
  | [] => na
  | v :: vs => (NoA.wipe na vs).drop
theorem wipe_in {i : Nat} : ∀ {vs : List Nat}, i ∈ vs → ∀ x, (wipe σ vs)[i]? ≠ some (some x)
  | [], h, x => (nomatch h)
  | v :: vs, h, x => by
    show ((wipe σ vs).set v none)[i]? ≠ _
    by_cases c : i = v
    · subst c
      by_cases hl : i < (wipe σ vs).length
      · rw [List.getElem?_set_self hl]; intro q; cases q
      · rw [List.getElem?_eq_none (by simpa using hl)]; intro q; cases q
    · rw [List.getElem?_set_ne (Ne.symm c)]
      exact wipe_in ((List.mem_cons.mp h).resolve_left c) x
theorem wipeE_in {i : Nat} : ∀ {vs : List Nat}, i ∈ vs → ∀ x, (wipeE ρ vs)[i]? ≠ some (some x)
  | [], h, x => (nomatch h)
  | v :: vs, h, x => by
    show ((wipeE ρ vs).set v none)[i]? ≠ _
    by_cases c : i = v
    · subst c
      by_cases hl : i < (wipeE ρ vs).length
      · rw [List.getElem?_set_self hl]; intro q; cases q
      · rw [List.getElem?_eq_none (by simpa using hl)]; intro q; cases q
    · rw [List.getElem?_set_ne (Ne.symm c)]
      exact wipeE_in ((List.mem_cons.mp h).resolve_left c) x
theorem wipe_get {i : Nat} : ∀ {vs : List Nat}, i ∈ vs → (wipe σ vs)[i]? = if i < σ.length then some none else none
  | [], h => (nomatch h)
  | v :: vs, h => by
    show ((wipe σ vs).set v none)[i]? = _
    by_cases c : i = v
    · subst c
      by_cases hl : i < (wipe σ vs).length
      · rw [List.getElem?_set_self hl, if_pos (by rw [wipe_length] at hl; exact hl)]
      · rw [List.getElem?_eq_none (by simpa using hl), if_neg (by rw [wipe_length] at hl; exact hl)]
    · rw [List.getElem?_set_ne (Ne.symm c)]
      exact wipe_get ((List.mem_cons.mp h).resolve_left c)
theorem wipe_eq {vs : List Nat} (h : ∀ i, i ∉ vs → σ'[i]? = σ[i]?) (l : σ'.length = σ.length) : wipe σ' vs = wipe σ vs := by
  refine List.ext_getElem? fun i => ?_
  by_cases c : i ∈ vs
  · rw [wipe_get c, wipe_get c, l]
  · rw [wipe_out c, wipe_out c, h i c]
theorem wipe_wipe {vs : List Nat} : wipe (wipe σ vs) vs = wipe σ vs := wipe_eq (fun i c => wipe_out c) (wipe_length _ _)
/-- the block's names are nothing outside -/
theorem Ev.unwipe {vs : List Nat} (E : Ev T Z H ρ (L2.wipe σ vs) F) : Ev T Z H ρ σ F where
  at_ := fun i d e => by
    obtain ⟨v, e1, q⟩ := E.at_ i d e
    exact ⟨v, (wipe_some e1).1, q⟩
  no := E.no
  nd := E.nd
  dj := E.dj
  nz := E.nz
  ln := by rw [E.ln, wipe_length]
  zx := E.zx
theorem VdL.app : ∀ {l1 l2 : List OD} {xs ys : List V} {B1 B2 : List Addr}, VdL T Z H l1 xs B1 → VdL T Z H l2 ys B2 → VdL T Z H (l1 ++ l2) (xs ++ ys) (B1 ++ B2)
  | [], l2, xs, ys, B1, B2, h1, h2 => by
    simp only [VdL] at h1
    obtain ⟨rfl, rfl⟩ := h1
    simpa using h2
  | d :: l1, l2, xs, ys, B1, B2, h1, h2 => by
    simp only [VdL, List.cons_append] at h1 ⊢
    obtain ⟨x, r, C1, C2, rfl, rfl, s, q⟩ := h1
    exact ⟨x, r ++ ys, C1, C2 ++ B2, rfl, by rw [List.append_assoc], s, VdL.app q h2⟩
theorem VdL.one {d : OD} {x : V} {B : List Addr} (h : Vd T Z H d x B) : VdL T Z H [d] [x] B := by
  simp only [VdL]
  exact ⟨x, [], B, [], rfl, by simp, h, rfl, rfl⟩
end
theorem noAlL_app : ∀ {l1 l2 : List OD}, noAlL (l1 ++ l2) = (noAlL l1 && noAlL l2)
  | [], l2 => by simp [noAlL]
  | d :: l1, l2 => by simp [noAlL, noAlL_app, Bool.and_assoc]
def lcAll (g : OD → En → Option En) (c e : VM) (ρ0 : En) : List OD → Option (List OD)
  | [] => some []
  | d :: l => match g d ρ0 with
    | none => none
    | some ρ1 => match c ρ1 with
      | some (.pl (.bl t)) => if t = true then (match e ρ1 with
          | none => none
          | some x => if x.noAl = true then (match lcAll g c e ρ0 l with
            | none => none
            | some r => some (x :: r)) else none) else lcAll g c e ρ0 l
      | _ => none
def vLc (s : En → Option (List OD)) (g : OD → En → Option En) (c e : VM) (vs : List Nat) : VM := fun ρ => match s ρ with
  | none => none
  | some l => match lcAll g c e (wipeE ρ vs) l with
    | none => none
    | some r => some (.ol r)
section
variable {X : Cx} {T : Tb}
theorem fts_nil : PTs X [] (tB (tV T (vC (.bl true)))) := ⟨fun pins s σ H Q I q => pts_nil.run pins s σ H Q I (by
  obtain ⟨Z, F, ρ, d, E, e1, q⟩ := q
  cases e1
  obtain ⟨b, e, q⟩ := q (.bl true) Z H [] (Ny.flat (p := .bl true) E.zx (by simp only [Vw]))
  cases e
  exact q)⟩
theorem t_lc {s : En → Option (List OD)} {g : OD → En → Option En} {c e : VM} {vs : List Nat} {σ : L2.St} {H : Hp} {Q : VK} (h : tV T (vLc s g c e vs) σ H Q) : tLc (tIV T s) (tG T vs g) (tB (tV T c)) (tV T e) vs σ H Q := by
  obtain ⟨Z, F, ρ, d, E, e1, q⟩ := h
  unfold vLc at e1
  cases es : s ρ with
  | none => rw [es] at e1; cases e1
  | some l =>
    rw [es] at e1
    dsimp only at e1
    cases el : lcAll g c e (wipeE ρ vs) l with
    | none => rw [el] at e1; cases e1
    | some ys =>
      rw [el] at e1
      cases e1
      refine ⟨Z, F, ρ, l, E, es, fun J Z1 H1 sm up dn zx sr hlen => ?_⟩
      intro D hD
      have E1 : Ev T Z1 H1 ρ σ F := E.same sm up (fun a z => (dn a z).imp_right fun z i m => by
        obtain ⟨xs, e⟩ := E.foot m
        rw [z] at e; cases e) zx
      obtain ⟨F0, E0, f0⟩ := E1.wipe vs
      refine ⟨fun i mm H' => mm = l.length - i ∧ i ≤ l.length ∧ ∃ Z' acc xs B rest, H' D = some (.lst xs) ∧ Same H1 H' ∧ (∀ a, Z1 a → Z' a) ∧ (∀ a, Z' a → Z1 a ∨ H1 a = none) ∧ ¬ Z' D ∧ Zx Z' H' ∧ VdL T Z' H' acc xs B ∧ noAlL acc = true ∧ acc.length ≤ i ∧ B.Nodup ∧ D ∉ B ∧ (∀ a ∈ B, H1 a = none ∧ ¬ Z' a) ∧ lcAll g c e (wipeE ρ vs) (l.drop i) = some rest ∧ ys = acc ++ rest,
        ⟨_, rfl, Nat.zero_le _, Z1, [], [], [], ys, upd_same, fun b o e => by rw [upd_ne (ne_of_none e hD)]; exact e, fun _ z => z, fun _ z => .inl z, ?_, ?_, by simp only [VdL]; exact ⟨trivial, trivial⟩, rfl, Nat.le_refl _, List.nodup_nil, (fun m => (nomatch m)), fun _ m => (nomatch m), el, rfl⟩, ?_⟩
      · intro z
        obtain ⟨o, e⟩ := zx D z
        rw [hD] at e; cases e
      · intro a z
        obtain ⟨o, e⟩ := zx a z
        exact ⟨o, by rw [upd_ne (ne_of_none e hD)]; exact e⟩
      · rintro i mm H' ⟨em, hi, Z', acc, xs, B, rest, hx, sm', up', dn', nD, zx', hacc, nacc, lacc, nd, nDB, fr, er, ey⟩
        obtain ⟨hstop, hgo⟩ := sr H' sm'
        by_cases hl : i < l.length
        · right
          obtain ⟨di, hp⟩ : ∃ p, l[i]? = some p := ⟨_, List.getElem?_eq_getElem hl⟩
          obtain ⟨go, yl⟩ := hgo i _ hp
          have ed : l.drop i = di :: l.drop (i + 1) := by
            rw [List.drop_eq_getElem_cons hl]
            congr 1
            exact Option.some.inj ((List.getElem?_eq_getElem hl).symm.trans hp)
          rw [ed] at er
          unfold lcAll at er
          refine ⟨go, fun H2 => i + 1 ≤ l.length ∧ ∃ Z' acc xs B rest, H2 D = some (.lst xs) ∧ Same H1 H2 ∧ (∀ a, Z1 a → Z' a) ∧ (∀ a, Z' a → Z1 a ∨ H1 a = none) ∧ ¬ Z' D ∧ Zx Z' H2 ∧ VdL T Z' H2 acc xs B ∧ noAlL acc = true ∧ acc.length ≤ i + 1 ∧ B.Nodup ∧ D ∉ B ∧ (∀ a ∈ B, H1 a = none ∧ ¬ Z' a) ∧ lcAll g c e (wipeE ρ vs) (l.drop (i + 1)) = some rest ∧ ys = acc ++ rest,
            fun H2 hh => ⟨l.length - (i + 1), by omega, rfl, hh⟩, fun x H2 hy => ?_⟩
          obtain ⟨sm2, hv⟩ := yl x H2 hy
          have E2 : Ev T Z' H2 (wipeE ρ vs) (L2.wipe σ vs) F0 := E0.same (sm'.trans sm2) up' (fun a z => (dn' a z).imp_right fun z i m => by
            obtain ⟨xs, e⟩ := E0.foot m
            rw [z] at e; cases e) fun a z => let ⟨o, e⟩ := zx' a z; ⟨o, sm2 a o e⟩
          cases eg : g di (wipeE ρ vs) with
          | none => rw [eg] at er; cases er
          | some ρ1 =>
            rw [eg] at er
            dsimp only at er
            refine ⟨Z', F0, _, di, ρ1, E2, Vd.same up' (fun _ _ e => e) hv, eg, fun σ3 F3 E3 f3 n3 k3 l3 => ⟨(wipe_eq k3 l3).trans wipe_wipe, ?_⟩⟩
            split at er
            · rename_i t ec
              refine ⟨Z', F3, ρ1, .pl (.bl t), E3, ec, fun v Z4 H4 B4 n4 => ⟨t, bl_of n4.vd, ?_⟩⟩
              have a1 : Same H' H4 := sm2.trans n4.same
              have dn4 : ∀ a, Z4 a → Z' a ∨ H' a = none := fun a z => by
                rcases n4.dn a z with z | z | z
                · exact .inl z
                · exact nomatch z
                · exact .inr (sm2.free z)
              have nD4 : ¬ Z4 D := fun z => by
                rcases dn4 D z with z | z
                · exact nD z
                · rw [hx] at z; cases z
              cases t with
              | false =>
                simp only [Bool.false_eq_true, if_false] at er ⊢
                exact ⟨hl, Z4, acc, xs, B, rest, a1 _ _ hx, sm'.trans a1, fun a z => n4.up a (up' a z), fun a z => by
                  rcases dn4 a z with z | z
                  · exact dn' a z
                  · exact .inr (sm'.free z), nD4, n4.zx, VdL.same n4.up a1 hacc, nacc, Nat.le_succ_of_le lacc, nd, nDB, fun a m => ⟨(fr a m).1, fun z => by
                  rcases dn4 a z with z | z
                  · exact (fr a m).2 z
                  · obtain ⟨ys, e⟩ := hacc.foot a m
                    rw [z] at e; cases e⟩, er, ey⟩
              | true =>
                simp only [if_true] at er ⊢
                cases ee : e ρ1 with
                | none => rw [ee] at er; cases er
                | some d5 =>
                  rw [ee] at er
                  dsimp only at er
                  by_cases na5 : d5.noAl = true
                  · rw [if_pos na5] at er
                    cases e6 : lcAll g c e (wipeE ρ vs) (l.drop (i + 1)) with
                    | none => rw [e6] at er; cases er
                    | some r =>
                      rw [e6] at er
                      cases er
                      refine ⟨Z4, F3, ρ1, d5, n4.ev E3 (fun _ m => (nomatch m)), ee, fun y Z5 H5 B5 n5 => ?_⟩
                      have a2 : Same H' H5 := a1.trans n5.same
                      have h5 := a2 _ _ hx
                      have len := hacc.len
                      have dn5 : ∀ a, Z5 a → Z' a ∨ H' a = none := fun a z => by
                        rcases n5.dn a z with z | z | z
                        · exact dn4 a z
                        · exact nomatch z
                        · exact .inr (a1.free z)
                      have nD5 : ¬ Z5 D := fun z => by
                        rcases dn5 D z with z | z
                        · exact nD z
                        · rw [hx] at z; cases z
                      have f5 : ∀ a ∈ B5, H4 a = none := fun a m => (n5.fr a m).elim (fun z => (nomatch z)) id
                      have nDB5 : D ∉ B5 := fun m => by
                        have z := f5 D m
                        rw [a1 _ _ hx] at z; cases z
                      refine ⟨xs, h5, by omega, hl, Z5, acc ++ [d5], xs ++ [y], B ++ B5, r, upd_same, fun b o e => ?_, fun a z => n5.up a (n4.up a (up' a z)), fun a z => ?_, nD5, fun a z => ?_, VdL.app ?_ (VdL.one ?_), ?_, by simp; omega, ?_, ?_, fun a m => ?_, rfl, by rw [ey, List.append_assoc]; rfl⟩
                      · rw [upd_ne (ne_of_none e hD)]
                        exact a2 _ _ (sm' _ _ e)
                      · rcases dn5 a z with z | z
                        · exact dn' a z
                        · exact .inr (sm'.free z)
                      · obtain ⟨o, e⟩ := n5.zx a z
                        exact ⟨o, by rw [upd_ne (by intro q; subst q; exact nD5 z)]; exact e⟩
                      · refine VdL.mono (B := []) (fun a z => n5.up a (n4.up a z)) nacc (fun a o e q => ?_) hacc
                        have ne : a ≠ D := fun q2 => by
                          subst q2
                          rcases q with q | q | q
                          · exact nD q
                          · exact nDB q
                          · rw [hx] at e; cases e; exact q
                        rw [upd_ne ne]
                        exact a2 _ _ e
                      · refine Vd.mono (B := []) (fun a z => z) na5 (fun a o e q => ?_) n5.vd
                        have ne : a ≠ D := fun q2 => by
                          subst q2
                          rcases q with q | q | q
                          · exact nD5 q
                          · exact nDB5 q
                          · rw [h5] at e; cases e; exact q
                        rw [upd_ne ne]
                        exact e
                      · rw [noAlL_app, nacc]
                        simp [noAlL, na5]
                      · refine List.nodup_append.mpr ⟨nd, n5.nd, fun a ha b hb e => ?_⟩
                        subst e
                        obtain ⟨zs, e⟩ := hacc.foot a ha
                        have z := f5 a hb
                        rw [a1 _ _ e] at z; cases z
                      · intro m
                        rcases List.mem_append.mp m with m | m
                        · exact nDB m
                        · exact nDB5 m
                      · rcases List.mem_append.mp m with m | m
                        · refine ⟨(fr a m).1, fun z => ?_⟩
                          rcases dn5 a z with z | z
                          · exact (fr a m).2 z
                          · obtain ⟨zs, e⟩ := hacc.foot a m
                            rw [z] at e; cases e
                        · exact ⟨(sm'.trans a1).free (f5 a m), n5.nz a m⟩
                  · rw [if_neg na5] at er; cases er
            · cases er
        · left
          refine ⟨hstop i (by omega), ?_⟩
          rw [List.drop_eq_nil_of_le (by omega)] at er
          unfold lcAll at er
          cases er
          rw [List.append_nil] at ey
          subst ey
          have hDn : H D = none := sm.free hD
          refine q (.ref D) Z' H' (D :: B) ⟨sm.trans sm', fun a z => up' a (up a z), fun a z => ?_, fun a m => ?_, List.nodup_cons.mpr ⟨nDB, nd⟩, fun a m => ?_, ?_, zx'⟩
          · rcases dn' a z with z | z
            · exact (dn a z).imp_right .inr
            · exact .inr (.inr (sm.free z))
          · rcases List.mem_cons.mp m with rfl | m
            · exact .inr hDn
            · exact .inr (sm.free (fr a m).1)
          · rcases List.mem_cons.mp m with rfl | m
            · exact nD
            · exact (fr a m).2
          · simp only [Vd]
            exact ⟨D, xs, B, rfl, rfl, hx, hacc⟩
theorem pv_lc {elt tg iter : Expr} {ifs : List Expr} {scope : Scope} {own : List (Str × Nat)} {pos : Pos} {s : En → Option (List OD)} {g : OD → En → Option En} {c e : VM} {vs : List Nat} (hvs : own.map (·.2) = vs) (hc : X.calm = true) (hN : X.N.Nodup) (hi : PI X tg iter (tIV T s)) (ok : BlkOk X.N X.env.scope scope own)
    (hg : ∀ (s : Shared) (H : Hp) (C : Addr) (cl : List (Str × Addr)) (fp : List Addr), PG (X.blk s H scope (compEnvC scope cl C X.env) fp) tg (tG T vs g)) (ht : ∀ (s : Shared) (H : Hp) (C : Addr) (cl : List (Str × Addr)) (fp : List Addr), PTs (X.blk s H scope (compEnvC scope cl C X.env) fp) ifs (tB (tV T c)))
    (he : ∀ (s : Shared) (H : Hp) (C : Addr) (cl : List (Str × Addr)) (fp : List Addr), PE (X.blk s H scope (compEnvC scope cl C X.env) fp) elt (tV T e)) (hs : ∀ x, foldedSetIterable iter X.env x = pure x := by intro _; rfl) :
    PE X (.ListComp elt [⟨tg, iter, ifs, 0⟩] scope pos) (tV T (vLc s g c e vs)) := pe_imp (by rw [← hvs] at hg ⊢; exact pe_lc hc hN hi ok hg ht he hs) fun σ H Q q => t_lc q
end
end Rq
end

section
set_option Elab.async false
set_option linter.all false
set_option maxRecDepth 100000
set_option maxHeartbeats 1000000
namespace Rq
open PySem PySem.Spec PyProof.Rows L2

/-! ## arguments -/
/-- values that come without a write -/
structure NyL (T : Tb) (Z : Addr → Prop) (H : Hp) (Z' : Addr → Prop) (H' : Hp) (l : List OD) (xs : List V) (B : List Addr) : Prop where
  same : Same H H'
  up : ∀ a, Z a → Z' a
  dn : ∀ a, Z' a → Z a ∨ H a = none
  fr : ∀ a ∈ B, H a = none
  nd : B.Nodup
  nz : ∀ a ∈ B, ¬ Z' a
  vd : VdL T Z' H' l xs B
  zx : Zx Z' H'
abbrev AV := En → Option (List OD)
def tAV (T : Tb) (m : AV) : TA := fun σ H Q => ∃ Z F ρ l, Ev T Z H ρ σ F ∧ m ρ = some l ∧ ∀ xs Z' H' B, NyL T Z H Z' H' l xs B → Q xs H'
def vNil : AV := fun _ => some []
def vCons (a : VM) (as : AV) : AV := fun ρ => match a ρ with
  | none => none
  | some d => match as ρ with
    | none => none
    | some l => some (d :: l)
theorem pa_imp {X : Cx} {es : List Expr} {t t' : TA} (h : PA X es t) (i : ∀ σ H Q, t' σ H Q → t σ H Q) : PA X es t' := ⟨fun pos pins s σ H Q I q => h.run pos pins s σ H Q I (i σ H Q q)⟩
section
variable {X : Cx} {T : Tb} {W : WX}
theorem fa_nil : PA X [] (tAV T vNil) := pa_imp pa_nil fun σ H Q q => by
  obtain ⟨Z, F, ρ, l, E, e1, q⟩ := q
  cases e1
  exact q [] Z H [] ⟨fun _ _ e => e, fun _ z => z, fun _ z => .inl z, fun _ m => (nomatch m), List.nodup_nil, fun _ m => (nomatch m), by simp only [VdL]; exact ⟨trivial, trivial⟩, E.zx⟩
theorem NyL.cons {Z Z1 Z2 : Addr → Prop} {H H1 H2 : Hp} {d : OD} {l : List OD} {v : V} {xs : List V} {B1 B2 : List Addr} (n : Ny T Z H [] Z1 H1 d v B1) (m : NyL T Z1 H1 Z2 H2 l xs B2) : NyL T Z H Z2 H2 (d :: l) (v :: xs) (B1 ++ B2) := by
  have fo := n.vd.foot
  refine ⟨n.same.trans m.same, fun a z => m.up a (n.up a z), fun a z => ?_, fun a h => ?_, ?_, fun a h => ?_, ?_, m.zx⟩
  · rcases m.dn a z with z | z
    · exact (n.dn a z).imp_right fun z => z.elim (fun z => (nomatch z)) id
    · exact .inr (n.same.free z)
  · rcases List.mem_append.mp h with h | h
    · exact (n.fr a h).elim (fun z => (nomatch z)) id
    · exact n.same.free (m.fr a h)
  · refine List.nodup_append.mpr ⟨n.nd, m.nd, fun a ha b hb e => ?_⟩
    subst e
    obtain ⟨xs, e⟩ := fo a ha
    have z := m.fr a hb
    rw [z] at e; cases e
  · rcases List.mem_append.mp h with h | h
    · intro z
      rcases m.dn a z with z | z
      · exact n.nz a h z
      · obtain ⟨xs, e⟩ := fo a h
        rw [z] at e; cases e
    · exact m.nz a h
  · simp only [VdL]
    exact ⟨v, xs, B1, B2, rfl, rfl, n.vd.same m.up m.same, m.vd⟩
theorem fa_cons {e : Expr} {es : List Expr} {a : VM} {as : AV} (ha : PE X e (tV T a)) (hr : PA X es (tAV T as)) (hs : starEach (e :: es) X.env = (false, eval e X.env) :: starEach es X.env := by rfl) : PA X (e :: es) (tAV T (vCons a as)) :=
  pa_imp (pa_cons ha hr hs) fun σ H Q q => by
    obtain ⟨Z, F, ρ, l, E, e1, q⟩ := q
    unfold vCons at e1
    cases ea : a ρ with
    | none => rw [ea] at e1; cases e1
    | some d =>
      rw [ea] at e1
      dsimp only at e1
      cases eb : as ρ with
      | none => rw [eb] at e1; cases e1
      | some l' =>
        rw [eb] at e1
        cases e1
        exact ⟨Z, F, ρ, d, E, ea, fun v Z1 H1 B1 n => ⟨Z1, F, ρ, l', n.ev E (fun _ m => (nomatch m)), eb, fun xs Z2 H2 B2 m => q (v :: xs) Z2 H2 (B1 ++ B2) (NyL.cons n m)⟩⟩

/-! ## displays -/
def allP : List OD → Option (List PD)
  | [] => some []
  | .pl p :: l => (match allP l with
    | none => none
    | some r => some (p :: r))
  | _ :: _ => none
def mkT (l : List OD) : OD := match allP l with
  | some ps => .pl (.tup ps)
  | none => .ot l
theorem allP_vw {Z : Addr → Prop} {H : Hp} : ∀ {l : List OD} {ps : List PD} {xs : List V} {B : List Addr}, allP l = some ps → VdL T Z H l xs B → VwL T Z H ps xs ∧ B = []
  | [], ps, xs, B, e, h => by
    simp only [allP, Option.some.injEq] at e
    subst e
    simp only [VdL] at h
    simp only [VwL]
    exact ⟨h.1, h.2⟩
  | .pl p :: l, ps, xs, B, e, h => by
    simp only [allP] at e
    cases e1 : allP l with
    | none => rw [e1] at e; cases e
    | some r =>
      rw [e1] at e
      cases e
      simp only [VdL, Vd] at h
      obtain ⟨x, r', B1, B2, rfl, rfl, ⟨rfl, hx⟩, hr⟩ := h
      obtain ⟨w, rfl⟩ := allP_vw e1 hr
      simp only [VwL]
      exact ⟨⟨x, r', rfl, hx, w⟩, rfl⟩
  | .ol _ :: l, ps, xs, B, e, h => by cases e
  | .ot _ :: l, ps, xs, B, e, h => by cases e
  | .al _ :: l, ps, xs, B, e, h => by cases e
theorem mkT_vd {Z : Addr → Prop} {H : Hp} {l : List OD} {xs : List V} {B : List Addr} {a : Addr} (h : VdL T Z H l xs B) (r : Rd H a (.tup xs)) : Vd T Z H (mkT l) (.ref a) B := by
  unfold mkT
  cases e : allP l with
  | none =>
    simp only [Vd]
    exact ⟨a, xs, rfl, r, h⟩
  | some ps =>
    obtain ⟨w, rfl⟩ := allP_vw e h
    simp only [Vd, Vw]
    exact ⟨trivial, a, xs, rfl, r, w⟩
theorem allP_noAl : ∀ {l : List OD} {ps : List PD}, allP l = some ps → noAlL l = true
  | [], ps, e => rfl
  | .pl p :: l, ps, e => by
    simp only [allP] at e
    cases e1 : allP l with
    | none => rw [e1] at e; cases e
    | some r => simp [noAlL, OD.noAl, allP_noAl e1]
  | .ol _ :: l, ps, e => by cases e
  | .ot _ :: l, ps, e => by cases e
  | .al _ :: l, ps, e => by cases e
theorem mkT_noAl {l : List OD} (h : noAlL l = true) : (mkT l).noAl = true := by
  unfold mkT
  cases e : allP l with
  | none => simpa only [OD.noAl] using h
  | some ps => rfl
def vLst (m : AV) : VM := fun ρ => match m ρ with
  | some l => if l.length ≤ 1000 then some (.ol l) else none
  | none => none
def vTup (m : AV) : VM := fun ρ => match m ρ with
  | some l => if l.length ≤ 1000 then some (mkT l) else none
  | none => none
theorem NyL.lay {Z Z1 : Addr → Prop} {H H1 : Hp} {l : List OD} {xs : List V} {B : List Addr} (n : NyL T Z H Z1 H1 l xs B) {p : Addr} (hp : H1 p = none) (o : HO) :
    NyL T Z H Z1 (upd H1 p o) l xs B := by
  have sm : Same H1 (upd H1 p o) := fun b u e => by rw [upd_ne (ne_of_none e hp)]; exact e
  exact ⟨n.same.trans sm, n.up, n.dn, n.fr, n.nd, n.nz, VdL.same (fun _ z => z) sm n.vd, fun a z => let ⟨u, e⟩ := n.zx a z; ⟨u, sm _ _ e⟩⟩
theorem small_disp {n : Nat} (h : n ≤ 1000) : n ≤ sizeLine := by rw [sizeLine_eq]; omega
theorem pv_lst {es : List Expr} {m : AV} {pos : Pos} (h : PA X es (tAV T m)) : PE X (.List es pos) (tV T (vLst m)) := pe_imp (pe_lst h) fun σ H Q q => by
  obtain ⟨Z, F, ρ, d, E, e1, q⟩ := q
  unfold vLst at e1
  cases em : m ρ with
  | none => rw [em] at e1; cases e1
  | some l =>
    rw [em] at e1
    dsimp only at e1
    split at e1
    · rename_i hl
      cases e1
      refine ⟨Z, F, ρ, l, E, em, fun xs Z1 H1 B n => ⟨by rw [n.vd.len]; exact small_disp hl, fun p hp => ?_⟩⟩
      have n' := n.lay hp (.lst xs)
      refine q (.ref p) Z1 _ (p :: B) ⟨n'.same, n'.up, fun a z => (n'.dn a z).imp_right .inr, fun a h => ?_, List.nodup_cons.mpr ⟨fun h => ?_, n'.nd⟩, fun a h => ?_, ?_, n'.zx⟩
      · rcases List.mem_cons.mp h with rfl | h
        · exact .inr (n.same.free hp)
        · exact .inr (n.fr a h)
      · obtain ⟨ys, e⟩ := n.vd.foot p h
        rw [hp] at e; cases e
      · rcases List.mem_cons.mp h with rfl | h
        · intro z
          obtain ⟨u, e⟩ := n.zx _ z
          rw [hp] at e; cases e
        · exact n.nz a h
      · simp only [Vd]
        exact ⟨p, xs, B, rfl, rfl, upd_same, n'.vd⟩
    · cases e1
theorem pv_tup {es : List Expr} {m : AV} {x1 : Nat} {pos : Pos} (h : PA X es (tAV T m)) : PE X (.Tuple es x1 pos) (tV T (vTup m)) := pe_imp (pe_tup h) fun σ H Q q => by
  obtain ⟨Z, F, ρ, d, E, e1, q⟩ := q
  unfold vTup at e1
  cases em : m ρ with
  | none => rw [em] at e1; cases e1
  | some l =>
    rw [em] at e1
    dsimp only at e1
    split at e1
    · rename_i hl
      cases e1
      refine ⟨Z, F, ρ, l, E, em, fun xs Z1 H1 B n => ⟨by rw [n.vd.len]; exact small_disp hl, fun p hp => ?_⟩⟩
      have n' := n.lay hp (.tup xs)
      exact q (.ref p) Z1 _ B ⟨n'.same, n'.up, fun a z => (n'.dn a z).imp_right .inr, fun a h => .inr (n'.fr a h), n'.nd, n'.nz, mkT_vd n'.vd (Rd.of upd_same), n'.zx⟩
    · cases e1

/-! ## calls that write nothing -/
def frzL : List OD → List OD
  | [] => []
  | d :: l => .pl d.toP :: frzL l
mutual
/-- all its lists are its own -/
def OD.own : OD → Bool
  | .pl p => p.flat
  | .ol l => ownL l
  | .ot l => ownL l
  | .al _ => false
def ownL : List OD → Bool
  | [] => true
  | d :: ds => d.own && ownL ds
end
/-- what a def's promise says -/
def spF (T : Tb) (g : List OD → Rs) : Sp := fun vs H Q E => ∃ Z F ds, Ev T Z H (ds.map some) (vs.map some) F ∧ NoA (ds.map some) ∧ match g ds with
  | .ok d ρo => ∀ v Z' H' F' B, Nx T Z H F Z' H' ρo (vs.map some) F' B → Vd T Z' H' d v B → d.noAl = true → Q v H'
  | .ex k p ρo => ∀ c dd Z' H' F', Nx T Z H F Z' H' ρo (vs.map some) F' [] → Exq T Z' H' k p c dd → E c dd H'
  | .st => False
mutual
theorem Vd.ofOwn {Z Z' : Addr → Prop} {H : Hp} : ∀ {d : OD} {v : V} {B : List Addr}, d.own = true → Vd T Z H d v B → Vd T Z' H d v B
  | .pl p, v, B, o, h => by
    simp only [Vd] at h ⊢
    simp only [OD.own] at o
    exact ⟨h.1, Vw.flat o h.2⟩
  | .ol l, v, B, o, h => by
    simp only [Vd] at h ⊢
    simp only [OD.own] at o
    obtain ⟨a, xs, B', e, b, s, r⟩ := h
    exact ⟨a, xs, B', e, b, s, VdL.ofOwn o r⟩
  | .ot l, v, B, o, h => by
    simp only [Vd] at h ⊢
    simp only [OD.own] at o
    obtain ⟨a, xs, e, s, r⟩ := h
    exact ⟨a, xs, e, s, VdL.ofOwn o r⟩
  | .al l, v, B, o, h => by cases o
theorem VdL.ofOwn {Z Z' : Addr → Prop} {H : Hp} : ∀ {d : List OD} {v : List V} {B : List Addr}, ownL d = true → VdL T Z H d v B → VdL T Z' H d v B
  | [], v, B, o, h => by simpa only [VdL] using h
  | d :: ds, v, B, o, h => by
    simp only [VdL] at h ⊢
    simp only [ownL, Bool.and_eq_true] at o
    obtain ⟨x, r, B1, B2, e, b, s, q⟩ := h
    exact ⟨x, r, B1, B2, e, b, Vd.ofOwn o.1 s, VdL.ofOwn o.2 q⟩
end
/-- the answer of a call as a value of ours -/
def ansV (l : List OD) (r : Rs) : Option OD := match r with
  | .ok d _ => if noAlL l = true then some d else if d.own = true then some d else if d.toP.noX = true then some d.toP.al else none
  | _ => none
def vCall (g : List OD → Rs) (m : AV) : VM := fun ρ => match m ρ with
  | some l => ansV l (g (frzL l))
  | none => none
/-- what the lists of arguments are to a callee -/
theorem frz_ev {Z : Addr → Prop} {H : Hp} (zx : Zx Z H) : ∀ {l : List OD} {xs : List V} {B : List Addr}, VdL T Z' H l xs B → (∀ {d : OD} {v : V} {B' : List Addr}, d ∈ l → Vd T Z' H d v B' → (∀ a ∈ B', a ∈ B) → Vw T Z H d.toP v) →
    Ev T Z H ((frzL l).map some) (xs.map some) (fun _ => [])
  | [], xs, B, h, f => by
    simp only [VdL] at h
    obtain ⟨rfl, rfl⟩ := h
    exact ⟨fun i d e => by simp [frzL] at e, fun _ _ m => (nomatch m), fun _ => List.nodup_nil, fun _ _ _ m => (nomatch m), fun _ _ m => (nomatch m), rfl, zx⟩
  | d :: l, xs, B, h, f => by
    simp only [VdL] at h
    obtain ⟨x, r, B1, B2, rfl, rfl, s, q⟩ := h
    have E := frz_ev zx q (fun {d' v B'} m hd hb => f (List.mem_cons_of_mem _ m) hd fun a ha => List.mem_append_right _ (hb a ha))
    refine ⟨fun i d' e => ?_, fun _ _ m => (nomatch m), fun _ => List.nodup_nil, fun _ _ _ m => (nomatch m), fun _ _ m => (nomatch m), ?_, zx⟩
    · cases i with
      | zero =>
        simp [frzL] at e
        subst e
        exact ⟨x, rfl, by simp only [Vd]; exact ⟨trivial, f List.mem_cons_self s fun a ha => List.mem_append_left _ ha⟩⟩
      | succ i =>
        simp only [frzL, List.map_cons, List.getElem?_cons_succ] at e ⊢
        exact E.at_ i d' e
    · have := E.ln
      simp only [frzL, List.map_cons, List.length_cons, this]
theorem frzL_noA : ∀ (l : List OD), NoA ((frzL l).map some)
  | [] => fun i d e => by simp [frzL] at e
  | d :: l => fun i d' e => by
    cases i with
    | zero => simp [frzL] at e; subst e; rfl
    | succ i =>
      simp only [frzL, List.map_cons, List.getElem?_cons_succ] at e
      exact frzL_noA l i d' e
theorem mem_noAl : ∀ {l : List OD} {d : OD}, noAlL l = true → d ∈ l → d.noAl = true
  | d0 :: l, d, h, m => by
    simp only [noAlL, Bool.and_eq_true] at h
    rcases List.mem_cons.mp m with rfl | m
    · exact h.1
    · exact mem_noAl h.2 m
mutual
theorem Vw.ex {Z : Addr → Prop} {H : Hp} : ∀ {p : PD} {v : V}, Vw T Z H p v → Vw T (fun a => ∃ o, H a = some o) H p v
  | .non, v, h => by simpa only [Vw] using h
  | .bl _, v, h => by simpa only [Vw] using h
  | .int _, v, h => by simpa only [Vw] using h
  | .str _, v, h => by simpa only [Vw] using h
  | .fn _, v, h => by simpa only [Vw] using h
  | .lst l, v, h => by
    simp only [Vw] at h ⊢
    obtain ⟨a, xs, e, s, z, r⟩ := h
    exact ⟨a, xs, e, s, s.elim (fun s => ⟨_, s⟩) (fun ⟨o, s⟩ => ⟨_, s⟩), VwL.ex r⟩
  | .tup l, v, h => by
    simp only [Vw] at h ⊢
    obtain ⟨a, xs, e, s, r⟩ := h
    exact ⟨a, xs, e, s, VwL.ex r⟩
  | .xc n p, v, h => by
    simp only [Vw] at h ⊢
    obtain ⟨a, d, w, e, s, q, r⟩ := h
    exact ⟨a, d, w, e, s, q, Vw.ex r⟩
theorem VwL.ex {Z : Addr → Prop} {H : Hp} : ∀ {p : List PD} {v : List V}, VwL T Z H p v → VwL T (fun a => ∃ o, H a = some o) H p v
  | [], v, h => by simpa only [VwL] using h
  | p :: ps, v, h => by
    simp only [VwL] at h ⊢
    obtain ⟨x, r, e, s, q⟩ := h
    exact ⟨x, r, e, Vw.ex s, VwL.ex q⟩
end
theorem t_call {g : List OD → Rs} {m : AV} {E0' : XK} {σ : L2.St} {H : Hp} {Q : VK} (h : tV T (vCall g m) σ H Q) : tCall (spF T g) [] E0' (tAV T m) σ H Q := by
  obtain ⟨Z, F, ρ, d, E, e1, q⟩ := h
  unfold vCall at e1
  cases em : m ρ with
  | none => rw [em] at e1; cases e1
  | some l =>
    rw [em] at e1
    dsimp only at e1
    refine ⟨Z, F, ρ, l, E, em, fun xs Z1 H1 B1 n => ?_⟩
    show spF T g (xs ++ []) H1 Q E0'
    rw [List.append_nil]
    unfold ansV at e1
    by_cases na : noAlL l = true
    · -- all frozen
      refine ⟨fun a => Z1 a ∨ a ∈ B1, fun _ => [], frzL l, frz_ev (Z := fun a => Z1 a ∨ a ∈ B1) (fun a z => z.elim (n.zx a) fun m => let ⟨ys, e⟩ := n.vd.foot a m; ⟨_, e⟩) n.vd (fun {d' v B'} mm hd hb => ?_), frzL_noA l, ?_⟩
      · exact Vw.mono (fun a o e _ => e) (fun a z => z.imp_right (hb a)) (hd.frz (mem_noAl na mm))
      · cases eg : g (frzL l) with
        | st => rw [eg] at e1; cases e1
        | ex k p ρo => rw [eg] at e1; cases e1
        | ok d' ρo =>
          rw [eg] at e1
          dsimp only at e1
          rw [if_pos na] at e1
          cases e1
          intro v Z' H' F' B nn hv nd
          have sm : Same H1 H' := fun a o e => nn.keep a o e fun i m => (nomatch m)
          have fr : ∀ a, H1 a = none → H a = none := fun a z => n.same.free z
          refine q v Z' H' B ⟨n.same.trans sm, fun a z => nn.up a (.inl (n.up a z)), fun a z => ?_, fun a h => ?_, nn.nd, nn.nz, hv, nn.ev.zx⟩
          · rcases nn.dn a z with z | ⟨_, z⟩ | z
            · rcases z with z | z
              · exact (n.dn a z).imp_right .inr
              · exact .inr (.inr (n.fr a z))
            · exact nomatch z
            · exact .inr (.inr (fr a z))
          · rcases nn.own a (.inl h) with ⟨_, z⟩ | z
            · exact nomatch z
            · exact .inr (fr a z)
    · refine ⟨fun a => ∃ o, H1 a = some o, fun _ => [], frzL l, frz_ev (Z := fun a => ∃ o, H1 a = some o) (fun a z => z) n.vd (fun {d' v B'} mm hd hb => ?_), frzL_noA l, ?_⟩
      · exact Vw.ex hd.all
      · cases eg : g (frzL l) with
        | st => rw [eg] at e1; cases e1
        | ex k p ρo => rw [eg] at e1; cases e1
        | ok d' ρo =>
          rw [eg] at e1
          dsimp only at e1
          rw [if_neg na] at e1
          intro v Z' H' F' B nn hv nd
          have sm : Same H1 H' := fun a o e => nn.keep a o e fun i m => (nomatch m)
          have fr : ∀ a, H1 a = none → H a = none := fun a z => n.same.free z
          have zx1 : Zx Z1 H' := fun a z => let ⟨o, e⟩ := n.zx a z; ⟨o, sm _ _ e⟩
          by_cases ow : d'.own = true
          · rw [if_pos ow] at e1
            cases e1
            refine q v Z1 H' B ⟨n.same.trans sm, n.up, fun a z => (n.dn a z).imp_right .inr, fun a h => ?_, nn.nd, fun a h z => ?_, hv.ofOwn ow, zx1⟩
            · rcases nn.own a (.inl h) with ⟨_, z⟩ | z
              · exact nomatch z
              · exact .inr (fr a z)
            · exact nn.nz a h (nn.up a (n.zx a z))
          · rw [if_neg ow] at e1
            by_cases nx : d'.toP.noX = true
            · rw [if_pos nx] at e1
              cases e1
              exact q v Z1 H' [] ⟨n.same.trans sm, n.up, fun a z => (n.dn a z).imp_right .inr, fun a h => (nomatch h), List.nodup_nil, fun a h => (nomatch h), Vw.al nx hv.all, zx1⟩
            · rw [if_neg nx] at e1; cases e1
end
end Rq
end

section
set_option Elab.async false
set_option linter.all false
set_option maxRecDepth 100000
set_option maxHeartbeats 1000000
namespace Rq
open PySem PySem.Spec PyProof.Rows L2

/-! ## what a name holds is handed on -/
theorem Ev.forget {T : Tb} {Z : Addr → Prop} {H : Hp} {F : Nat → List Addr} {σ : L2.St} {ρ : En} {i : Nat} (E : Ev T Z H ρ σ F) : Ev T Z H (ρ.set i none) σ (updF F i []) where
  at_ := fun j d' e => by
    by_cases c : j = i
    · subst c
      by_cases hi : j < ρ.length
      · rw [List.getElem?_set_self hi] at e; cases e
      · rw [List.getElem?_eq_none (by simpa using hi)] at e; cases e
    · rw [List.getElem?_set_ne (Ne.symm c)] at e
      obtain ⟨v', e1, q⟩ := E.at_ j d' e
      refine ⟨v', e1, ?_⟩
      unfold updF; rw [if_neg c]; exact q
  no := (E.drop (i := i) (o := none)).no
  nd := (E.drop (i := i) (o := none)).nd
  dj := (E.drop (i := i) (o := none)).dj
  nz := (E.drop (i := i) (o := none)).nz
  ln := by simp [E.ln]
  zx := E.zx
def eMove (i : Nat) : EM := fun ρ => match ρ[i]? with
  | some (some d) => .ok d (ρ.set i none)
  | _ => .st
section
variable {X : Cx} {T : Tb} {W : WX}
theorem Nx.move {Z : Addr → Prop} {H : Hp} {F : Nat → List Addr} {σ : L2.St} {ρ : En} {i : Nat} {d : OD} (E : Ev T Z H ρ σ F) (na : NoA ρ) (e : ρ[i]? = some (some d)) : Nx T Z H F Z H (ρ.set i none) σ (updF F i []) (F i) :=
  ⟨fun _ _ e _ => e, fun _ e => e, fun _ z => z, fun _ z => .inl z, fun a h => by
    rcases h with h | ⟨j, h⟩
    · exact .inl ⟨i, h⟩
    · unfold updF at h
      by_cases c : j = i
      · rw [if_pos c] at h; cases h
      · rw [if_neg c] at h; exact .inl ⟨j, h⟩, E.forget, na.drop, E.nd i, fun a h => E.nz i a h, fun a h j m => by
    unfold updF at m
    by_cases c : j = i
    · rw [if_pos c] at m; cases m
    · rw [if_neg c] at m
      exact c (E.dj j i a m h)⟩
theorem t_move {i : Nat} {σ : L2.St} {H : Hp} {Q : VK} (h : tE T W (eMove i) σ H Q) : ∃ v, σ[i]? = some (some v) ∧ Q v H := by
  obtain ⟨Z, F, ρ, E, na, q⟩ := h
  unfold eMove at q
  cases e : ρ[i]? with
  | none => rw [e] at q; exact q.elim
  | some o =>
    cases o with
    | none => rw [e] at q; exact q.elim
    | some d =>
      rw [e] at q
      obtain ⟨v, e1, r⟩ := E.at_ i d e
      exact ⟨v, e1, q v Z H _ _ (Nx.move E na e) r (na i d e)⟩
theorem pe_move {i : Nat} {e : Expr} (h : PE X e (tVar i)) : PE X e (tE T W (eMove i)) := pe_imp h fun σ H Q q => t_move q

/-! ## arguments of calls that may write -/
inductive Ag where
  | e (m : EM) | l (i : Nat) | r (m : EM)
inductive RsL where
  | ok (l : List OD) (ρ : En) | ex (k : Nat) (p : PD) (ρ : En) | st
def agE : Ag → EM
  | .e m => eF m
  | .l i => eMove i
  | .r m => m
def evA : List Ag → En → RsL
  | [], ρ => .ok [] ρ
  | a :: as, ρ => match agE a ρ with
    | .ok d ρ1 => (match evA as ρ1 with
      | .ok l ρ2 => .ok (d :: l) ρ2
      | r => r)
    | .ex k p ρ1 => .ex k p ρ1
    | .st => .st
def LendOk : List Ag → L2.St → List V → Prop
  | [], _, _ => True
  | .e _ :: as, σ, xs => LendOk as σ xs.tail
  | .r _ :: as, σ, xs => LendOk as σ xs.tail
  | .l i :: as, σ, xs => σ[i]? = some xs.head? ∧ LendOk as σ xs.tail
def tAE (T : Tb) (W : WX) (as : List Ag) : TA := fun σ H Q => ∃ Z F ρ, Ev T Z H ρ σ F ∧ NoA ρ ∧ match evA as ρ with
  | .ok l ρ' => ∀ xs Z' H' F' B, Nx T Z H F Z' H' ρ' σ F' B → VdL T Z' H' l xs B → noAlL l = true → LendOk as σ xs → Q xs H'
  | .ex k p ρ' => ∀ c dd Z' H' F', Nx T Z H F Z' H' ρ' σ F' [] → Exq T Z' H' k p c dd → W c dd σ H'
  | .st => False
theorem ga_nil : PA X [] (tAE T W []) := pa_imp pa_nil fun σ H Q q => by
  obtain ⟨Z, F, ρ, E, na, q⟩ := q
  exact q [] Z H F [] (Nx.refl E na) (by simp only [VdL]; exact ⟨trivial, trivial⟩) rfl trivial
theorem VdL.behind {Z Z1 Z' : Addr → Prop} {H H1 H' : Hp} {F F1 F' : Nat → List Addr} {ρ ρ1 ρ' : En} {σ σ1 σ' : L2.St} {B B1 : List Addr} {d1 : OD} {l : List OD} {v1 : V} {xs : List V} (E : Ev T Z H ρ σ F) (n : Nx T Z H F Z1 H1 ρ1 σ1 F1 B1) (h : Vd T Z1 H1 d1 v1 B1) (na : d1.noAl = true) (m : Nx T Z1 H1 F1 Z' H' ρ' σ' F' B) (hl : VdL T Z' H' l xs B) :
    VdL T Z' H' (d1 :: l) (v1 :: xs) (B1 ++ B) ∧ Nx T Z H F Z' H' ρ' σ' F' (B1 ++ B) := by
  obtain ⟨a, b⟩ := Nx.behind E n h na m
  refine ⟨?_, b⟩
  simp only [VdL]
  exact ⟨v1, xs, B1, B, rfl, rfl, a, hl⟩
theorem ga_consG {e : Expr} {es : List Expr} {a : Ag} {as : List Ag} {te : TE} (ha : PE X e te) (hi : ∀ σ H Q, (∃ Z F ρ, Ev T Z H ρ σ F ∧ NoA ρ ∧ match agE a ρ with
      | .ok d ρ' => ∀ v Z' H' F' B, Nx T Z H F Z' H' ρ' σ F' B → Vd T Z' H' d v B → d.noAl = true → LendOk [a] σ [v] → Q v H'
      | .ex k p ρ' => ∀ c dd Z' H' F', Nx T Z H F Z' H' ρ' σ F' [] → Exq T Z' H' k p c dd → W c dd σ H'
      | .st => False) → te σ H Q) (hl : ∀ σ x xs, LendOk [a] σ [x] → LendOk as σ xs → LendOk (a :: as) σ (x :: xs)) (hr : PA X es (tAE T W as)) (hs : starEach (e :: es) X.env = (false, eval e X.env) :: starEach es X.env := by rfl) : PA X (e :: es) (tAE T W (a :: as)) :=
  pa_imp (pa_cons ha hr hs) fun σ H Q q => by
    obtain ⟨Z, F, ρ, E, na, q⟩ := q
    refine hi σ H _ ⟨Z, F, ρ, E, na, ?_⟩
    unfold evA at q
    cases ea : agE a ρ with
    | st => rw [ea] at q; exact q
    | ex k p ρ1 => rw [ea] at q; exact q
    | ok d ρ1 =>
      rw [ea] at q
      intro v Z1 H1 F1 B1 n hv nd le
      refine ⟨Z1, F1, ρ1, n.ev, n.na, ?_⟩
      dsimp only at q
      cases eb : evA as ρ1 with
      | st => rw [eb] at q; exact q
      | ex k p ρ2 =>
        rw [eb] at q
        intro c dd Z' H' F' m hx
        exact q c dd Z' H' F' (Nx.tr E n m) hx
      | ok l ρ2 =>
        rw [eb] at q
        intro xs Z2 H2 F2 B2 m hl2 nl le2
        obtain ⟨g1, g2⟩ := VdL.behind E n hv nd m hl2
        exact q (v :: xs) Z2 H2 F2 _ g2 g1 (by simp [noAlL, nd, nl]) (hl σ v xs le le2)
theorem ga_cons {e : Expr} {es : List Expr} {m : EM} {as : List Ag} (ha : PE X e (tE T W m)) (hr : PA X es (tAE T W as)) (hs : starEach (e :: es) X.env = (false, eval e X.env) :: starEach es X.env := by rfl) : PA X (e :: es) (tAE T W (.e m :: as)) :=
  ga_consG (a := .e m) (pe_eF ha) (fun σ H Q q => by
    obtain ⟨Z, F, ρ, E, na, q⟩ := q
    refine ⟨Z, F, ρ, E, na, ?_⟩
    have q' : match eF m ρ with
      | .ok d ρ' => ∀ v Z' H' F' B, Nx T Z H F Z' H' ρ' σ F' B → Vd T Z' H' d v B → d.noAl = true → LendOk [.e m] σ [v] → Q v H'
      | .ex k p ρ' => ∀ c dd Z' H' F', Nx T Z H F Z' H' ρ' σ F' [] → Exq T Z' H' k p c dd → W c dd σ H'
      | .st => False := q
    cases e1 : eF m ρ with
    | st => rw [e1] at q'; exact q'
    | ex k p ρ1 => rw [e1] at q'; exact q'
    | ok d ρ1 =>
      rw [e1] at q'
      exact fun v Z' H' F' B n hv nd => q' v Z' H' F' B n hv nd trivial) (fun σ x xs _ h => h) hr hs
theorem ga_raw {e : Expr} {es : List Expr} {m : EM} {as : List Ag} (ha : PE X e (tE T W m)) (hr : PA X es (tAE T W as)) (hs : starEach (e :: es) X.env = (false, eval e X.env) :: starEach es X.env := by rfl) : PA X (e :: es) (tAE T W (.r m :: as)) :=
  ga_consG (a := .r m) ha (fun σ H Q q => by
    obtain ⟨Z, F, ρ, E, na, q⟩ := q
    refine ⟨Z, F, ρ, E, na, ?_⟩
    have q' : match m ρ with
      | .ok d ρ' => ∀ v Z' H' F' B, Nx T Z H F Z' H' ρ' σ F' B → Vd T Z' H' d v B → d.noAl = true → LendOk [.r m] σ [v] → Q v H'
      | .ex k p ρ' => ∀ c dd Z' H' F', Nx T Z H F Z' H' ρ' σ F' [] → Exq T Z' H' k p c dd → W c dd σ H'
      | .st => False := q
    cases e1 : m ρ with
    | st => rw [e1] at q'; exact q'
    | ex k p ρ1 => rw [e1] at q'; exact q'
    | ok d ρ1 =>
      rw [e1] at q'
      exact fun v Z' H' F' B n hv nd => q' v Z' H' F' B n hv nd trivial) (fun σ x xs _ h => h) hr hs
theorem ga_lend {e : Expr} {es : List Expr} {i : Nat} {as : List Ag} (ha : PE X e (tVar i)) (hr : PA X es (tAE T W as)) (hs : starEach (e :: es) X.env = (false, eval e X.env) :: starEach es X.env := by rfl) : PA X (e :: es) (tAE T W (.l i :: as)) :=
  ga_consG (a := .l i) ha (fun σ H Q q => by
    obtain ⟨Z, F, ρ, E, na, q⟩ := q
    have q' : match eMove i ρ with
      | .ok d ρ' => ∀ v Z' H' F' B, Nx T Z H F Z' H' ρ' σ F' B → Vd T Z' H' d v B → d.noAl = true → LendOk [.l i] σ [v] → Q v H'
      | .ex k p ρ' => ∀ c dd Z' H' F', Nx T Z H F Z' H' ρ' σ F' [] → Exq T Z' H' k p c dd → W c dd σ H'
      | .st => False := q
    unfold eMove at q'
    cases e : ρ[i]? with
    | none => rw [e] at q'; exact q'.elim
    | some o =>
      cases o with
      | none => rw [e] at q'; exact q'.elim
      | some d =>
        rw [e] at q'
        obtain ⟨v, e1, r⟩ := E.at_ i d e
        exact ⟨v, e1, q' v Z H _ _ (Nx.move E na e) r (na i d e) ⟨e1, trivial⟩⟩) (fun σ x xs h1 h2 => ⟨h1.1, h2⟩) hr hs

/-! ## calls -/
def back : List Ag → En → En → En
  | [], _, ρ => ρ
  | .e _ :: as, o, ρ => back as o.tail ρ
  | .r _ :: as, o, ρ => back as o.tail ρ
  | .l i :: as, o, ρ => back as o.tail (match o with
    | some d :: _ => ρ.set i (some d)
    | _ => ρ)
def eCall (g : List OD → Rs) (as : List Ag) : EM := fun ρ => match evA as ρ with
  | .ok l ρ1 => (match g l with
    | .ok d ρo => .ok d (back as ρo ρ1)
    | .ex k p ρo => .ex k p (back as ρo ρ1)
    | .st => .st)
  | .ex k p ρ1 => .ex k p ρ1
  | .st => .st
/-- the arguments are the callee's state -/
theorem args_ev {Z : Addr → Prop} {H : Hp} (zx : Zx Z H) : ∀ {l : List OD} {xs : List V} {B : List Addr}, VdL T Z H l xs B → B.Nodup → (∀ a ∈ B, ¬ Z a) → ∃ F, Ev T Z H (l.map some) (xs.map some) F ∧ ∀ i a, a ∈ F i → a ∈ B
  | [], xs, B, h, nd, nz => by
    simp only [VdL] at h
    obtain ⟨rfl, rfl⟩ := h
    exact ⟨fun _ => [], ⟨fun i d e => by simp at e, fun _ _ m => (nomatch m), fun _ => List.nodup_nil, fun _ _ _ m => (nomatch m), fun _ _ m => (nomatch m), rfl, zx⟩, fun _ _ m => (nomatch m)⟩
  | d :: l, xs, B, h, nd, nz => by
    simp only [VdL] at h
    obtain ⟨x, r, B1, B2, rfl, rfl, s, q⟩ := h
    have nd' := List.nodup_append.mp nd
    obtain ⟨F, E, f⟩ := args_ev zx q nd'.2.1 (fun a m => nz a (List.mem_append_right _ m))
    refine ⟨fun i => match i with | 0 => B1 | i + 1 => F i, ⟨fun i d' e => ?_, fun i a m => ?_, fun i => ?_, fun i j a m1 m2 => ?_, fun i a m => ?_, ?_, zx⟩, fun i a m => ?_⟩
    · cases i with
      | zero => simp at e; subst e; exact ⟨x, rfl, s⟩
      | succ i =>
        simp only [List.map_cons, List.getElem?_cons_succ] at e ⊢
        exact E.at_ i d' e
    · cases i with
      | zero => exact ⟨d, rfl⟩
      | succ i => exact E.no i a m
    · cases i with
      | zero => exact nd'.1
      | succ i => exact E.nd i
    · cases i with
      | zero =>
        cases j with
        | zero => rfl
        | succ j => exact absurd rfl (nd'.2.2 a m1 a (f j a m2))
      | succ i =>
        cases j with
        | zero => exact absurd rfl (nd'.2.2 a m2 a (f i a m1))
        | succ j => rw [E.dj i j a m1 m2]
    · cases i with
      | zero => exact nz a (List.mem_append_left _ m)
      | succ i => exact nz a (List.mem_append_right _ (f i a m))
    · have := E.ln
      simp only [List.map_cons, List.length_cons, this]
    · cases i with
      | zero => exact List.mem_append_left _ m
      | succ i => exact List.mem_append_right _ (f i a m)
theorem args_noA : ∀ {l : List OD}, noAlL l = true → NoA (l.map some)
  | [], h => fun i d e => by simp at e
  | d :: l, h => fun i d' e => by
    simp only [noAlL, Bool.and_eq_true] at h
    cases i with
    | zero => simp at e; subst e; exact h.1
    | succ i =>
      simp only [List.map_cons, List.getElem?_cons_succ] at e
      exact args_noA h.2 i d' e
/-- the names get back what they lent -/
theorem back_ev {Z : Addr → Prop} {H : Hp} {σ : L2.St} : ∀ {as : List Ag} {o : En} {xs : List V} {Fo : Nat → List Addr} {ρ : En} {F : Nat → List Addr}, LendOk as σ xs → Ev T Z H o (xs.map some) Fo → NoA o → Ev T Z H ρ σ F → NoA ρ → (∀ k a, a ∈ Fo k → ∀ i, a ∉ F i) →
    ∃ F', Ev T Z H (back as o ρ) σ F' ∧ NoA (back as o ρ) ∧ ∀ i a, a ∈ F' i → a ∈ F i ∨ ∃ k, a ∈ Fo k
  | [], o, xs, Fo, ρ, F, le, Eo, no, E, na, dj => ⟨F, E, na, fun i a m => .inl m⟩
  | a :: as, o, xs, Fo, ρ, F, le, Eo, no, E, na, dj => by
    -- the rest
    have Et : Ev T Z H o.tail (xs.tail.map some) (fun k => Fo (k + 1)) := by
      refine ⟨fun i d e => ?_, fun i a m => ?_, fun i => Eo.nd _, fun i j a m1 m2 => by have := Eo.dj _ _ a m1 m2; omega, fun i a m => Eo.nz _ a m, ?_, Eo.zx⟩
      · have e' : o[i + 1]? = some (some d) := by rw [← List.getElem?_tail]; exact e
        obtain ⟨v, e1, q⟩ := Eo.at_ _ d e'
        refine ⟨v, ?_, q⟩
        rw [List.map_tail, List.getElem?_tail]
        exact e1
      · obtain ⟨d, e⟩ := Eo.no _ a m
        exact ⟨d, by rw [List.getElem?_tail]; exact e⟩
      · have := Eo.ln
        simp only [List.length_map] at this
        simp only [List.length_tail, List.length_map, this]
    have nt : NoA o.tail := fun i d e => no (i + 1) d (by rw [← List.getElem?_tail]; exact e)
    cases a with
    | e m =>
      obtain ⟨F', E', na', f⟩ := back_ev (as := as) (Fo := fun k => Fo (k + 1)) le Et nt E na (fun k a m => dj (k + 1) a m)
      exact ⟨F', E', na', fun i a m => (f i a m).imp_right fun ⟨k, h⟩ => ⟨k + 1, h⟩⟩
    | r m =>
      obtain ⟨F', E', na', f⟩ := back_ev (as := as) (Fo := fun k => Fo (k + 1)) le Et nt E na (fun k a m => dj (k + 1) a m)
      exact ⟨F', E', na', fun i a m => (f i a m).imp_right fun ⟨k, h⟩ => ⟨k + 1, h⟩⟩
    | l i =>
      obtain ⟨l1, l2⟩ := le
      cases o with
      | nil =>
        obtain ⟨F', E', na', f⟩ := back_ev (as := as) (Fo := fun k => Fo (k + 1)) l2 Et nt E na (fun k a m => dj (k + 1) a m)
        exact ⟨F', E', na', fun i a m => (f i a m).imp_right fun ⟨k, h⟩ => ⟨k + 1, h⟩⟩
      | cons o0 o' =>
        cases o0 with
        | none =>
          obtain ⟨F', E', na', f⟩ := back_ev (as := as) (Fo := fun k => Fo (k + 1)) l2 Et nt E na (fun k a m => dj (k + 1) a m)
          exact ⟨F', E', na', fun i a m => (f i a m).imp_right fun ⟨k, h⟩ => ⟨k + 1, h⟩⟩
        | some d =>
          obtain ⟨v, e1, q⟩ := Eo.at_ 0 d rfl
          have hx : xs.head? = some v := by
            cases xs with
            | nil => simp at e1
            | cons x xs => simp at e1; subst e1; rfl
          rw [hx] at l1
          by_cases hi : i < ρ.length
          · have Es := E.set hi q (Eo.nd 0) (fun a m => Eo.nz 0 a m) (fun a m j => dj 0 a m j)
            have eσ : σ.set i (some v) = σ := by
              refine List.ext_getElem? fun j => ?_
              by_cases c : j = i
              · subst c
                rw [List.getElem?_set_self (by rw [← E.ln]; exact hi), l1]
              · rw [List.getElem?_set_ne (Ne.symm c)]
            rw [eσ] at Es
            obtain ⟨F', E', na', f⟩ := back_ev (as := as) (Fo := fun k => Fo (k + 1)) l2 Et nt Es (na.set (no 0 d rfl)) (fun k a m j mj => by
              unfold updF at mj
              by_cases c : j = i
              · rw [if_pos c] at mj
                have := Eo.dj _ _ a m mj
                omega
              · rw [if_neg c] at mj
                exact dj (k + 1) a m j mj)
            refine ⟨F', E', na', fun j a m => ?_⟩
            rcases f j a m with h | ⟨k, h⟩
            · unfold updF at h
              by_cases c : j = i
              · rw [if_pos c] at h; exact .inr ⟨0, h⟩
              · rw [if_neg c] at h; exact .inl h
            · exact .inr ⟨k + 1, h⟩
          · have eρ : ρ.set i (some d) = ρ := set_big hi
            obtain ⟨F', E', na', f⟩ := back_ev (as := as) (Fo := fun k => Fo (k + 1)) l2 Et nt E na (fun k a m => dj (k + 1) a m)
            show ∃ F', Ev T Z H (back as o' (ρ.set i (some d))) σ F' ∧ NoA (back as o' (ρ.set i (some d))) ∧ _
            rw [eρ]
            exact ⟨F', E', na', fun i a m => (f i a m).imp_right fun ⟨k, h⟩ => ⟨k + 1, h⟩⟩
/-- behind a call -/
theorem Nx.call {Z Z1 Z2 : Addr → Prop} {H H1 H2 : Hp} {F F1 Fc Fo : Nat → List Addr} {ρ ρ1 ρo : En} {σ : L2.St} {as : List Ag} {xs : List V} {B1 B : List Addr} (E : Ev T Z H ρ σ F) (n : Nx T Z H F Z1 H1 ρ1 σ F1 B1) (fo1 : ∀ a ∈ B1, ∃ ys, H1 a = some (.lst ys)) (fc : ∀ i a, a ∈ Fc i → a ∈ B1)
    (le : LendOk as σ xs) (m : Nx T Z1 H1 Fc Z2 H2 ρo (xs.map some) Fo B) : ∃ F2, Nx T Z H F Z2 H2 (back as ρo ρ1) σ F2 B := by
  have E2 : Ev T Z2 H2 ρ1 σ F1 := by
    refine ⟨fun i d e => ?_, n.ev.no, n.ev.nd, n.ev.dj, fun i a h z => ?_, n.ev.ln, m.ev.zx⟩
    · obtain ⟨v, e1, q⟩ := n.ev.at_ i d e
      refine ⟨v, e1, Vd.mono (B := []) m.up (n.na i d e) (fun a o e c => m.keep a o e fun j h => ?_) q⟩
      have hb := fc j a h
      rcases c with c | c | c
      · exact n.nz a hb c
      · exact n.dj a hb i c
      · obtain ⟨ys, e'⟩ := fo1 a hb
        rw [e] at e'; cases e'; exact c
    · rcases m.dn a z with z | ⟨j, z⟩ | z
      · exact n.ev.nz i a h z
      · exact n.dj a (fc j a z) i h
      · obtain ⟨ys, e'⟩ := n.ev.foot h
        rw [z] at e'; cases e'
  have djo : ∀ k a, a ∈ Fo k → ∀ i, a ∉ F1 i := fun k a h i hf => by
    rcases m.own a (.inr ⟨k, h⟩) with ⟨j, z⟩ | z
    · exact n.dj a (fc j a z) i hf
    · obtain ⟨ys, e'⟩ := n.ev.foot hf
      rw [z] at e'; cases e'
  obtain ⟨F2, E3, na3, f⟩ := back_ev le m.ev m.na E2 n.na djo
  refine ⟨F2, fun a o e c => m.keep a o (n.keep a o e c) fun j h => ?_, fun a e => n.dom a (m.dom a e), fun a z => m.up a (n.up a z), fun a z => ?_, fun a h => ?_, E3, na3, m.nd, m.nz, fun a h i hf => ?_⟩
  · rcases n.own a (.inl (fc j a h)) with ⟨i, z⟩ | z
    · exact c i z
    · rw [e] at z; cases z
  · rcases m.dn a z with z | ⟨j, z⟩ | z
    · exact n.dn a z
    · exact .inr (n.own a (.inl (fc j a z)))
    · exact .inr (.inr (n.dom a z))
  · have hm : (∃ j, a ∈ Fc j) ∨ H1 a = none ∨ ∃ i, a ∈ F1 i := by
      rcases h with h | ⟨i, h⟩
      · exact (m.own a (.inl h)).imp_right .inl
      · rcases f i a h with h | ⟨k, h⟩
        · exact .inr (.inr ⟨i, h⟩)
        · exact (m.own a (.inr ⟨k, h⟩)).imp_right .inl
    rcases hm with ⟨j, z⟩ | z | ⟨i, z⟩
    · exact n.own a (.inl (fc j a z))
    · exact .inr (n.dom a z)
    · exact n.own a (.inr ⟨i, z⟩)
  · rcases f i a hf with z | ⟨k, z⟩
    · rcases m.own a (.inl h) with ⟨j, z'⟩ | z'
      · exact n.dj a (fc j a z') i z
      · obtain ⟨ys, e'⟩ := n.ev.foot z
        rw [z'] at e'; cases e'
    · exact m.dj a h k z
theorem t_callE {g : List OD → Rs} {as : List Ag} {σ : L2.St} {H : Hp} {Q : VK} (h : tE T W (eCall g as) σ H Q) : tCallS (spF T g) (WE W) (tAE T W as) σ H Q := by
  obtain ⟨Z, F, ρ, E, na, q⟩ := h
  refine ⟨Z, F, ρ, E, na, ?_⟩
  unfold eCall at q
  cases ea : evA as ρ with
  | st => rw [ea] at q; exact q
  | ex k p ρ1 => rw [ea] at q; exact q
  | ok l ρ1 =>
    rw [ea] at q
    intro xs Z1 H1 F1 B1 n hl nl le
    obtain ⟨Fc, Ec, fc⟩ := args_ev n.ev.zx hl n.nd n.nz
    refine ⟨Z1, Fc, l, Ec, args_noA nl, ?_⟩
    dsimp only at q
    cases eg : g l with
    | st => rw [eg] at q; exact q
    | ok d ρo =>
      rw [eg] at q
      intro v Z2 H2 Fo B m hv nd
      obtain ⟨F2, k⟩ := Nx.call E n hl.foot fc le m
      exact q v Z2 H2 F2 B k hv nd
    | ex k p ρo =>
      rw [eg] at q
      intro c dd Z2 H2 Fo m hx
      obtain ⟨F2, k⟩ := Nx.call E n hl.foot fc le m
      exact q c dd Z2 H2 F2 k hx
end
end Rq
end

section
set_option Elab.async false
set_option linter.all false
set_option maxRecDepth 100000
set_option maxHeartbeats 1000000
namespace Rq
open PySem PySem.Spec PyProof.Rows L2

/-! ## a def -/
def maskE (ln : List Nat) : Nat → Nat → En → En
  | 0, _, _ => []
  | n + 1, i, [] => none :: maskE ln n (i + 1) []
  | n + 1, i, o :: r => (if ln.contains i = true then o else none) :: maskE ln n (i + 1) r
theorem maskE_len (ln : List Nat) : ∀ (n i : Nat) (r : En), (maskE ln n i r).length = n
  | 0, _, _ => rfl
  | n + 1, i, [] => by simp [maskE, maskE_len ln n]
  | n + 1, i, o :: r => by simp [maskE, maskE_len ln n]
theorem maskE_get {ln : List Nat} {d : OD} : ∀ {n i j : Nat} {r : En}, (maskE ln n i r)[j]? = some (some d) → j < n ∧ i + j ∈ ln ∧ r[j]? = some (some d)
  | 0, i, j, r, h => by simp [maskE] at h
  | n + 1, i, 0, [], h => by simp [maskE] at h
  | n + 1, i, j + 1, [], h => by
    simp only [maskE, List.getElem?_cons_succ] at h
    obtain ⟨a, b, c⟩ := maskE_get h
    simp at c
  | n + 1, i, 0, o :: r, h => by
    simp only [maskE, List.getElem?_cons_zero, Option.some.injEq] at h
    split at h
    · rename_i c
      subst h
      exact ⟨Nat.succ_pos _, by simpa using c, rfl⟩
    · cases h
  | n + 1, i, j + 1, o :: r, h => by
    simp only [maskE, List.getElem?_cons_succ] at h
    obtain ⟨a, b, c⟩ := maskE_get h
    exact ⟨Nat.succ_lt_succ a, by rw [← Nat.add_assoc, Nat.add_right_comm]; exact b, by simpa using c⟩
theorem maskE_of {ln : List Nat} {d : OD} : ∀ {n i j : Nat} {r : En}, j < n → i + j ∈ ln → r[j]? = some (some d) → (maskE ln n i r)[j]? = some (some d)
  | 0, i, j, r, a, b, c => absurd a (Nat.not_lt_zero _)
  | n + 1, i, j, [], a, b, c => by simp at c
  | n + 1, i, 0, o :: r, a, b, c => by
    simp only [List.getElem?_cons_zero, Option.some.injEq] at c
    subst c
    simp only [maskE, List.getElem?_cons_zero]
    rw [if_pos (by simpa using b)]
  | n + 1, i, j + 1, o :: r, a, b, c => by
    simp only [maskE, List.getElem?_cons_succ] at c ⊢
    exact maskE_of (Nat.lt_of_succ_lt_succ a) (by rw [Nat.add_assoc, Nat.add_comm 1]; exact b) c
def runD (np nn : Nat) (ln : List Nat) (b : SM) : List OD → Rs := fun ds => if ds.length = np then (match b (ds.map some ++ List.replicate (nn - np) none) with
    | .nx ρ' => .ok (.pl .non) (maskE ln np 0 ρ')
    | .rt d ρ' => .ok d (maskE ln np 0 ρ')
    | .ex k p ρ' => .ex k p (maskE ln np 0 ρ')
    | _ => .st) else .st
section
variable {T : Tb}
theorem Ev.start {Z : Addr → Prop} {H : Hp} {F : Nat → List Addr} {ds : List OD} {vs : List V} {m : Nat} (E : Ev T Z H (ds.map some) (vs.map some) F) : Ev T Z H (ds.map some ++ List.replicate m none) (vs.map some ++ List.replicate m none) F := by
  have l := E.ln
  refine ⟨fun i d e => ?_, fun i a h => ?_, E.nd, E.dj, E.nz, by simp only [List.length_append, l, List.length_replicate], E.zx⟩
  · rw [List.getElem?_append] at e
    split at e
    · rename_i hi
      obtain ⟨v, e1, q⟩ := E.at_ i d e
      refine ⟨v, ?_, q⟩
      rw [List.getElem?_append_left (by rw [← l]; exact hi)]
      exact e1
    · rw [List.getElem?_replicate] at e
      split at e <;> cases e
  · obtain ⟨d, e⟩ := E.no i a h
    refine ⟨d, ?_⟩
    rw [List.getElem?_append_left (List.getElem?_eq_some_iff.mp e).1]
    exact e
theorem NoA.start {ds : List OD} {m : Nat} (na : NoA (ds.map some)) : NoA (ds.map some ++ List.replicate m none) := fun i d e => by
  rw [List.getElem?_append] at e
  split at e
  · exact na i d e
  · rw [List.getElem?_replicate] at e
    split at e <;> cases e
theorem Nx.leave {Z Z' : Addr → Prop} {H H' : Hp} {F F' : Nat → List Addr} {ρ' : En} {σ' : L2.St} {B : List Addr} {ln : List Nat} {vs : List V} {m : Nat} (n : Nx T Z H F Z' H' ρ' σ' F' B) (k : KpS ln (vs.map some ++ List.replicate m none) σ') :
    ∃ F2, Nx T Z H F Z' H' (maskE ln vs.length 0 ρ') (vs.map some) F2 B := by
  have fE : ∀ i a, a ∈ (if i < vs.length ∧ i ∈ ln then F' i else []) → i < vs.length ∧ i ∈ ln ∧ a ∈ F' i := fun i a h => by
    split at h
    · rename_i c; exact ⟨c.1, c.2, h⟩
    · cases h
  refine ⟨fun i => if i < vs.length ∧ i ∈ ln then F' i else [], n.keep, n.dom, n.up, n.dn, fun a h => ?_, ⟨fun i d e => ?_, fun i a h => ?_, fun i => ?_, fun i j a h1 h2 => ?_, fun i a h => ?_, by rw [maskE_len]; simp, n.ev.zx⟩, fun i d e => ?_, n.nd, n.nz, fun a h i h2 => ?_⟩
  · rcases h with h | ⟨i, h⟩
    · exact n.own a (.inl h)
    · exact n.own a (.inr ⟨i, (fE i a h).2.2⟩)
  · obtain ⟨a, b, c⟩ := maskE_get e
    rw [Nat.zero_add] at b
    obtain ⟨v, e1, q⟩ := n.ev.at_ i d c
    refine ⟨v, ?_, ?_⟩
    · rw [k i b] at e1
      rw [List.getElem?_append_left (by simpa using a)] at e1
      exact e1
    · rw [if_pos ⟨a, b⟩]; exact q
  · obtain ⟨h1, h2, h3⟩ := fE i a h
    obtain ⟨d, e⟩ := n.ev.no i a h3
    exact ⟨d, maskE_of h1 (by rw [Nat.zero_add]; exact h2) e⟩
  · show (if i < vs.length ∧ i ∈ ln then F' i else []).Nodup
    split
    · exact n.ev.nd i
    · exact List.nodup_nil
  · exact n.ev.dj i j a (fE i a h1).2.2 (fE j a h2).2.2
  · exact n.ev.nz i a (fE i a h).2.2
  · exact n.na i d (maskE_get e).2.2
  · exact n.dj a h i (fE i a h2).2.2
theorem fn_ok {P : Program} {w : World} {K : PySem.W.Frag} {mg : Str → Option Value} {base : Heap} {x qual : Str} {st : Stmt} {f : Addr} {fd : FuncData} {N ps : List Str} {k : Nat} {ln : List Nat} {b : SM} (F : Fun K x qual st f fd) (S : FnScope N ps (defScope st))
    (hb : ∀ (cdv : Value) (A : Around) (outer : List Env) (s : Shared) (H : Hp) (E : XK), Room k (A.deeper (envOfC qual (defScope st) s.heap.objs.size f cdv)) → PSs (cxOf (L2.CX P w) P w K mg base N qual (defScope st) f cdv A outer s H E) (defBody st) (tS T (fun c d _ H' => E c d H') ln b)) :
    FnOk P w K mg base (L2.CX P w) (k + 1) f fd ps (spF T (runD ps.length N.length ln b)) := by
  have hlen : ∀ vs H Q E, spF T (runD ps.length N.length ln b) vs H Q E → vs.length = ps.length := fun vs H Q E h => by
    obtain ⟨Z, F', ds, Ed, na, q⟩ := h
    have l := Ed.ln
    simp only [List.length_map] at l
    unfold runD at q
    by_cases c : ds.length = ps.length
    · omega
    · rw [if_neg c] at q; exact q.elim
  refine F.okX S hlen (fun cdv A outer s H vs Q E hr h => ⟨_, hb cdv A outer s H E hr, ?_⟩)
  have hv := hlen vs H Q E h
  obtain ⟨Z, F', ds, Ed, na, q⟩ := h
  have l := Ed.ln
  simp only [List.length_map] at l
  have hd : ds.length = ps.length := l.trans hv
  unfold runD at q
  rw [if_pos hd] at q
  unfold L2.start
  rw [hv]
  refine tS_of (Ev.start Ed) (NoA.start na) ?_
  cases e : b (ds.map some ++ List.replicate (N.length - ps.length) none) with
  | nx ρ' =>
    rw [e] at q
    intro σ' Z' H' F2 n kk
    obtain ⟨F3, n3⟩ := n.leave kk
    rw [hv] at n3
    exact q .non Z' H' F3 [] n3 (by simp only [Vd, Vw]; exact ⟨trivial, trivial⟩) rfl
  | rt d ρ' =>
    rw [e] at q
    intro σ' v Z' H' F2 B n hv' nd kk
    obtain ⟨F3, n3⟩ := n.leave kk
    rw [hv] at n3
    exact q v Z' H' F3 B n3 hv' nd
  | ex kx p ρ' =>
    rw [e] at q
    intro σ' c dd Z' H' F2 n hx kk
    obtain ⟨F3, n3⟩ := n.leave kk
    rw [hv] at n3
    exact q c dd Z' H' F3 n3 hx
  | bk ρ' => rw [e] at q; exact q.elim
  | ct ρ' => rw [e] at q; exact q.elim
  | st => rw [e] at q; exact q.elim
end

/-! ## and, or, not, if in expressions -/
def vNot (m : VM) : VM := fun ρ => match m ρ with
  | some (.pl (.bl b)) => some (.pl (.bl (!b)))
  | _ => none
def vAnd (a b : VM) : VM := fun ρ => match a ρ with
  | some (.pl (.bl t)) => if t = true then b ρ else some (.pl (.bl false))
  | _ => none
def vOr (a b : VM) : VM := fun ρ => match a ρ with
  | some (.pl (.bl t)) => if t = true then some (.pl (.bl true)) else b ρ
  | _ => none
def vIf (c a b : VM) : VM := fun ρ => match c ρ with
  | some (.pl (.bl t)) => if t = true then a ρ else b ρ
  | _ => none
def eNot (m : EM) : EM := fun ρ => match m ρ with
  | .ok (.pl (.bl b)) ρ1 => .ok (.pl (.bl (!b))) ρ1
  | .ok _ _ => .st
  | .ex k p ρ1 => .ex k p ρ1
  | .st => .st
def eAnd (a b : EM) : EM := fun ρ => match a ρ with
  | .ok (.pl (.bl t)) ρ1 => if t = true then b ρ1 else .ok (.pl (.bl false)) ρ1
  | .ok _ _ => .st
  | .ex k p ρ1 => .ex k p ρ1
  | .st => .st
def eOr (a b : EM) : EM := fun ρ => match a ρ with
  | .ok (.pl (.bl t)) ρ1 => if t = true then .ok (.pl (.bl true)) ρ1 else b ρ1
  | .ok _ _ => .st
  | .ex k p ρ1 => .ex k p ρ1
  | .st => .st
def eIf (c a b : EM) : EM := fun ρ => match c ρ with
  | .ok (.pl (.bl t)) ρ1 => if t = true then a ρ1 else b ρ1
  | .ok _ _ => .st
  | .ex k p ρ1 => .ex k p ρ1
  | .st => .st
section
variable {X : Cx} {T : Tb} {W : WX}
theorem pt_v {e : Expr} {m : VM} (h : PE X e (tV T m)) (he : ∀ whole, isTrue e X.env whole = (do let v ← whole; standAt e.pos; holding [v] (truthy v)) := by intro _; rfl) : PT X e (tB (tV T m)) := pt_val h he
theorem pt_e {e : Expr} {m : EM} (h : PE X e (tE T W m)) (he : ∀ whole, isTrue e X.env whole = (do let v ← whole; standAt e.pos; holding [v] (truthy v)) := by intro _; rfl) : PT X e (tB (tE T W m)) := pt_val h he
/-- a pure test's reading: one boolean -/
theorem of_tV {m : VM} {σ : L2.St} {H : Hp} {Q : VK} (h : tV T m σ H Q) : ∃ Z F ρ d, Ev T Z H ρ σ F ∧ m ρ = some d ∧ ∀ v Z' H' B, Ny T Z H [] Z' H' d v B → Q v H' := h
theorem Ny.bl {Z : Addr → Prop} {H : Hp} {b : Bool} (zx : Zx Z H) : Ny T Z H [] Z H (.pl (.bl b)) (.bl b) [] := Ny.flat zx (by simp only [Vw])
theorem Ny.bl2 {Z Z' : Addr → Prop} {H H' : Hp} {b c : Bool} {v : V} {B : List Addr} (n : Ny T Z H [] Z' H' (.pl (.bl b)) v B) : Ny T Z H [] Z' H' (.pl (.bl c)) (.bl c) [] :=
  ⟨n.same, n.up, n.dn, fun _ m => (nomatch m), List.nodup_nil, fun _ m => (nomatch m), by simp only [Vd, Vw]; exact ⟨trivial, trivial⟩, n.zx⟩
theorem t_vNot {R : V → Hp → Prop} {m : VM} {σ : L2.St} {H : Hp} (h : tV T (vNot m) σ H R) : tV T m σ H fun x H1 => ∃ c, x = .bl c ∧ R (.bl (!c)) H1 := by
  obtain ⟨Z, F, ρ, d, E, e1, q⟩ := h
  unfold vNot at e1
  split at e1
  · rename_i b e2
    cases e1
    exact ⟨Z, F, ρ, _, E, e2, fun v Z' H' B n => ⟨b, bl_of n.vd, q _ Z' H' [] n.bl2⟩⟩
  · cases e1
theorem pv_not {a : Expr} {m : VM} {pos : Pos} (h : PE X a (tV T m)) : PE X (.UnaryOp .Not a pos) (tV T (vNot m)) := pe_imp (pe_not h) fun σ H Q q => t_vNot q
theorem ptv_not {a : Expr} {m : VM} {pos : Pos} (h : PT X a (tB (tV T m))) : PT X (.UnaryOp .Not a pos) (tB (tV T (vNot m))) := pt_imp (pt_not h) fun σ H Q q => by
  obtain ⟨Z, F, ρ, d, E, e1, q⟩ := t_vNot q
  exact ⟨Z, F, ρ, d, E, e1, fun v Z' H' B n => by
    obtain ⟨c, e, c', e', q'⟩ := q v Z' H' B n
    cases e'
    exact ⟨c, e, q'⟩⟩
theorem t_vAnd {R : V → Hp → Prop} {a b : VM} {σ : L2.St} {H : Hp} (h : tV T (vAnd a b) σ H R) : tV T a σ H fun x H1 => ∃ c, x = .bl c ∧ if c = true then tV T b σ H1 R else R (.bl false) H1 := by
  obtain ⟨Z, F, ρ, d, E, e1, q⟩ := h
  unfold vAnd at e1
  split at e1
  · rename_i t e2
    refine ⟨Z, F, ρ, _, E, e2, fun v Z' H' B n => ⟨t, bl_of n.vd, ?_⟩⟩
    cases t with
    | true =>
      simp only [if_true] at e1 ⊢
      exact ⟨Z', F, ρ, d, n.ev E (fun _ m => (nomatch m)), e1, fun v2 Z2 H2 B2 m => q v2 Z2 H2 B2 (n.tr ⟨m.same, m.up, fun a z => (m.dn a z).imp_right fun z => z.elim (fun z => (nomatch z)) .inr, fun a h => (m.fr a h).elim (fun z => (nomatch z)) .inr, m.nd, m.nz, m.vd, m.zx⟩)⟩
    | false =>
      simp only [Bool.false_eq_true, if_false] at e1 ⊢
      cases e1
      exact q _ Z' H' [] n.bl2
  · cases e1
theorem t_vOr {R : V → Hp → Prop} {a b : VM} {σ : L2.St} {H : Hp} (h : tV T (vOr a b) σ H R) : tV T a σ H fun x H1 => ∃ c, x = .bl c ∧ if c = true then R (.bl true) H1 else tV T b σ H1 R := by
  obtain ⟨Z, F, ρ, d, E, e1, q⟩ := h
  unfold vOr at e1
  split at e1
  · rename_i t e2
    refine ⟨Z, F, ρ, _, E, e2, fun v Z' H' B n => ⟨t, bl_of n.vd, ?_⟩⟩
    cases t with
    | false =>
      simp only [Bool.false_eq_true, if_false] at e1 ⊢
      exact ⟨Z', F, ρ, d, n.ev E (fun _ m => (nomatch m)), e1, fun v2 Z2 H2 B2 m => q v2 Z2 H2 B2 (n.tr ⟨m.same, m.up, fun a z => (m.dn a z).imp_right fun z => z.elim (fun z => (nomatch z)) .inr, fun a h => (m.fr a h).elim (fun z => (nomatch z)) .inr, m.nd, m.nz, m.vd, m.zx⟩)⟩
    | true =>
      simp only [if_true] at e1 ⊢
      cases e1
      exact q _ Z' H' [] n.bl2
  · cases e1
theorem t_vIf {R : V → Hp → Prop} {c a b : VM} {σ : L2.St} {H : Hp} (h : tV T (vIf c a b) σ H R) : tV T c σ H fun x H1 => ∃ t, x = .bl t ∧ if t = true then tV T a σ H1 R else tV T b σ H1 R := by
  obtain ⟨Z, F, ρ, d, E, e1, q⟩ := h
  unfold vIf at e1
  split at e1
  · rename_i t e2
    refine ⟨Z, F, ρ, _, E, e2, fun v Z' H' B n => ⟨t, bl_of n.vd, ?_⟩⟩
    have fin : ∀ {x : VM}, x ρ = some d → tV T x σ H' R := fun e => ⟨Z', F, ρ, d, n.ev E (fun _ m => (nomatch m)), e, fun v2 Z2 H2 B2 m => q v2 Z2 H2 B2 (n.tr ⟨m.same, m.up, fun a z => (m.dn a z).imp_right fun z => z.elim (fun z => (nomatch z)) .inr, fun a h => (m.fr a h).elim (fun z => (nomatch z)) .inr, m.nd, m.nz, m.vd, m.zx⟩)⟩
    cases t with
    | true => simp only [if_true] at e1 ⊢; exact fin e1
    | false => simp only [Bool.false_eq_true, if_false] at e1 ⊢; exact fin e1
  · cases e1
theorem pv_one {op : BoolOp} {a : Expr} {m : VM} {pos : Pos} (h : PE X a (tV T m)) : PE X (.BoolOp op [a] pos) (tV T m) := pe_one h
theorem pv_and {a b : Expr} {rest : List Expr} {m n : VM} {pos : Pos} (h : PE X a (tV T m)) (h2 : PE X (.BoolOp .And (b :: rest) pos) (tV T n)) : PE X (.BoolOp .And (a :: b :: rest) pos) (tV T (vAnd m n)) := pe_imp (pe_and h h2) fun σ H Q q => t_vAnd q
theorem pv_or {a b : Expr} {rest : List Expr} {m n : VM} {pos : Pos} (h : PE X a (tV T m)) (h2 : PE X (.BoolOp .Or (b :: rest) pos) (tV T n)) : PE X (.BoolOp .Or (a :: b :: rest) pos) (tV T (vOr m n)) := pe_imp (pe_or h h2) fun σ H Q q => t_vOr q
theorem tB_of {m : VM} {σ : L2.St} {H : Hp} {Q : Bool → Hp → Prop} (h : tV T m σ H fun x H1 => ∃ c, x = .bl c ∧ Q c H1) : tB (tV T m) σ H Q := h
theorem pwv_and1 {a : Expr} {m : VM} {pos : Pos} (h : PT X a (tB (tV T m))) : PW X (.BoolOp .And [a] pos) (tB (tV T m)) := pw_and1 h
theorem pwv_or1 {a : Expr} {m : VM} {pos : Pos} (h : PT X a (tB (tV T m))) : PW X (.BoolOp .Or [a] pos) (tB (tV T m)) := pw_or1 h
theorem pw_imp {e : Expr} {t t' : TT} (h : PW X e t) (i : ∀ σ H Q, t' σ H Q → t σ H Q) : PW X e t' := ⟨fun wh pins s σ H Q I q => h.run wh pins s σ H Q I (i σ H Q q)⟩
theorem pwv_and {a b : Expr} {rest : List Expr} {m n : VM} {pos : Pos} (h : PT X a (tB (tV T m))) (h2 : PW X (.BoolOp .And (b :: rest) pos) (tB (tV T n))) : PW X (.BoolOp .And (a :: b :: rest) pos) (tB (tV T (vAnd m n))) := pw_imp (pw_and h h2) fun σ H Q q => by
  obtain ⟨Z, F, ρ, d, E, e1, q⟩ := t_vAnd q
  refine ⟨Z, F, ρ, d, E, e1, fun v Z' H' B n => ?_⟩
  obtain ⟨c, e, q'⟩ := q v Z' H' B n
  refine ⟨c, e, ?_⟩
  cases c with
  | true => simp only [if_true] at q' ⊢; exact q'
  | false =>
    simp only [Bool.false_eq_true, if_false] at q' ⊢
    obtain ⟨c', e', q''⟩ := q'
    cases e'
    exact q''
theorem pwv_or {a b : Expr} {rest : List Expr} {m n : VM} {pos : Pos} (h : PT X a (tB (tV T m))) (h2 : PW X (.BoolOp .Or (b :: rest) pos) (tB (tV T n))) : PW X (.BoolOp .Or (a :: b :: rest) pos) (tB (tV T (vOr m n))) := pw_imp (pw_or h h2) fun σ H Q q => by
  obtain ⟨Z, F, ρ, d, E, e1, q⟩ := t_vOr q
  refine ⟨Z, F, ρ, d, E, e1, fun v Z' H' B n => ?_⟩
  obtain ⟨c, e, q'⟩ := q v Z' H' B n
  refine ⟨c, e, ?_⟩
  cases c with
  | false => simp only [Bool.false_eq_true, if_false] at q' ⊢; exact q'
  | true =>
    simp only [if_true] at q' ⊢
    obtain ⟨c', e', q''⟩ := q'
    cases e'
    exact q''
theorem pv_if {c a b : Expr} {mc ma mb : VM} {pos : Pos} (hc : PT X c (tB (tV T mc))) (ha : PE X a (tV T ma)) (hb : PE X b (tV T mb)) : PE X (.IfExp c a b pos) (tV T (vIf mc ma mb)) := pe_imp (pe_ifExp hc ha hb) fun σ H Q q => t_vIf q
/-! .. that may write -/
theorem t_eNot {R : V → Hp → Prop} {m : EM} {σ : L2.St} {H : Hp} (h : tE T W (eNot m) σ H R) : tE T W m σ H fun x H1 => ∃ c, x = .bl c ∧ R (.bl (!c)) H1 := by
  obtain ⟨Z, F, ρ, E, na, q⟩ := of_tE h
  refine tE_of E na ?_
  unfold eNot at q
  cases e1 : m ρ with
  | st => rw [e1] at q; exact q
  | ex k p ρ1 => rw [e1] at q; exact q
  | ok d ρ1 =>
    rw [e1] at q
    intro v Z' H' F' B n hv nd
    cases d with
    | pl p =>
      cases p with
      | bl t => exact ⟨t, bl_of hv, q _ Z' H' F' [] n.nil (by simp only [Vd, Vw]; exact ⟨trivial, trivial⟩) rfl⟩
      | _ => exact q.elim
    | _ => exact q.elim
theorem t_eIf {R : V → Hp → Prop} {c a b : EM} {σ : L2.St} {H : Hp} (h : tE T W (eIf c a b) σ H R) : tE T W c σ H fun x H1 => ∃ t, x = .bl t ∧ if t = true then tE T W a σ H1 R else tE T W b σ H1 R := by
  obtain ⟨Z, F, ρ, E, na, q⟩ := of_tE h
  refine tE_of E na ?_
  unfold eIf at q
  cases e1 : c ρ with
  | st => rw [e1] at q; exact q
  | ex k p ρ1 => rw [e1] at q; exact q
  | ok d ρ1 =>
    rw [e1] at q
    intro v Z' H' F' B n hv nd
    cases d with
    | pl p =>
      cases p with
      | bl t =>
        refine ⟨t, bl_of hv, ?_⟩
        cases t with
        | true => exact tE_of n.ev n.na (PostE.tr E n q)
        | false => exact tE_of n.ev n.na (PostE.tr E n q)
      | _ => exact q.elim
    | _ => exact q.elim
theorem eAnd_if (a b : EM) : eAnd a b = eIf a b (fun ρ => .ok (.pl (.bl false)) ρ) := by
  funext ρ
  unfold eAnd eIf
  rfl
theorem eOr_if (a b : EM) : eOr a b = eIf a (fun ρ => .ok (.pl (.bl true)) ρ) b := by
  funext ρ
  unfold eOr eIf
  rfl
theorem tE_bl {R : V → Hp → Prop} {c : Bool} {σ : L2.St} {H : Hp} (h : tE T W (fun ρ => .ok (.pl (.bl c)) ρ) σ H R) : R (.bl c) H := by
  obtain ⟨Z, F, ρ, E, na, q⟩ := of_tE h
  exact q _ Z H F [] (Nx.refl E na) (by simp only [Vd, Vw]; exact ⟨trivial, trivial⟩) rfl
theorem t_eAnd {R : V → Hp → Prop} {a b : EM} {σ : L2.St} {H : Hp} (h : tE T W (eAnd a b) σ H R) : tE T W a σ H fun x H1 => ∃ c, x = .bl c ∧ if c = true then tE T W b σ H1 R else R (.bl false) H1 := by
  rw [eAnd_if] at h
  obtain ⟨Z, F, ρ, E, na, q⟩ := of_tE (t_eIf h)
  refine tE_of E na ?_
  cases e1 : a ρ with
  | st => rw [e1] at q; exact q
  | ex k p ρ1 => rw [e1] at q; exact q
  | ok d ρ1 =>
    rw [e1] at q
    intro v Z' H' F' B n hv nd
    obtain ⟨t, e, q'⟩ := q v Z' H' F' B n hv nd
    refine ⟨t, e, ?_⟩
    cases t with
    | true => simp only [if_true] at q' ⊢; exact q'
    | false => simp only [Bool.false_eq_true, if_false] at q' ⊢; exact tE_bl q'
theorem t_eOr {R : V → Hp → Prop} {a b : EM} {σ : L2.St} {H : Hp} (h : tE T W (eOr a b) σ H R) : tE T W a σ H fun x H1 => ∃ c, x = .bl c ∧ if c = true then R (.bl true) H1 else tE T W b σ H1 R := by
  rw [eOr_if] at h
  obtain ⟨Z, F, ρ, E, na, q⟩ := of_tE (t_eIf h)
  refine tE_of E na ?_
  cases e1 : a ρ with
  | st => rw [e1] at q; exact q
  | ex k p ρ1 => rw [e1] at q; exact q
  | ok d ρ1 =>
    rw [e1] at q
    intro v Z' H' F' B n hv nd
    obtain ⟨t, e, q'⟩ := q v Z' H' F' B n hv nd
    refine ⟨t, e, ?_⟩
    cases t with
    | false => simp only [Bool.false_eq_true, if_false] at q' ⊢; exact q'
    | true => simp only [if_true] at q' ⊢; exact tE_bl q'
/-- what is wanted of the value may be weakened -/
theorem tE_mono {m : EM} {σ : L2.St} {H : Hp} {Q R : VK} (h : tE T W m σ H Q) (i : ∀ v H, Q v H → R v H) : tE T W m σ H R := by
  obtain ⟨Z, F, ρ, E, na, q⟩ := of_tE h
  refine tE_of E na ?_
  cases e1 : m ρ with
  | st => rw [e1] at q; exact q
  | ex k p ρ1 => rw [e1] at q; exact q
  | ok d ρ1 =>
    rw [e1] at q
    exact fun v Z' H' F' B n hv nd => i _ _ (q v Z' H' F' B n hv nd)
theorem pe_notE {a : Expr} {m : EM} {pos : Pos} (h : PE X a (tE T W m)) : PE X (.UnaryOp .Not a pos) (tE T W (eNot m)) := pe_imp (pe_not h) fun σ H Q q => t_eNot q
theorem pte_not {a : Expr} {m : EM} {pos : Pos} (h : PT X a (tB (tE T W m))) : PT X (.UnaryOp .Not a pos) (tB (tE T W (eNot m))) := pt_imp (pt_not h) fun σ H Q q => tE_mono (t_eNot q) fun v H ⟨c, e, c', e', q'⟩ => by
  cases e'
  exact ⟨c, e, q'⟩
theorem pe_andE {a b : Expr} {rest : List Expr} {m n : EM} {pos : Pos} (h : PE X a (tE T W m)) (h2 : PE X (.BoolOp .And (b :: rest) pos) (tE T W n)) : PE X (.BoolOp .And (a :: b :: rest) pos) (tE T W (eAnd m n)) := pe_imp (pe_and h h2) fun σ H Q q => t_eAnd q
theorem pe_orE {a b : Expr} {rest : List Expr} {m n : EM} {pos : Pos} (h : PE X a (tE T W m)) (h2 : PE X (.BoolOp .Or (b :: rest) pos) (tE T W n)) : PE X (.BoolOp .Or (a :: b :: rest) pos) (tE T W (eOr m n)) := pe_imp (pe_or h h2) fun σ H Q q => t_eOr q
theorem pwe_and {a b : Expr} {rest : List Expr} {m n : EM} {pos : Pos} (h : PT X a (tB (tE T W m))) (h2 : PW X (.BoolOp .And (b :: rest) pos) (tB (tE T W n))) : PW X (.BoolOp .And (a :: b :: rest) pos) (tB (tE T W (eAnd m n))) := pw_imp (pw_and h h2) fun σ H Q q => tE_mono (t_eAnd q) fun v H ⟨c, e, q'⟩ => by
  refine ⟨c, e, ?_⟩
  cases c with
  | true => simp only [if_true] at q' ⊢; exact q'
  | false =>
    simp only [Bool.false_eq_true, if_false] at q' ⊢
    obtain ⟨c', e', q''⟩ := q'
    cases e'
    exact q''
theorem pwe_or {a b : Expr} {rest : List Expr} {m n : EM} {pos : Pos} (h : PT X a (tB (tE T W m))) (h2 : PW X (.BoolOp .Or (b :: rest) pos) (tB (tE T W n))) : PW X (.BoolOp .Or (a :: b :: rest) pos) (tB (tE T W (eOr m n))) := pw_imp (pw_or h h2) fun σ H Q q => tE_mono (t_eOr q) fun v H ⟨c, e, q'⟩ => by
  refine ⟨c, e, ?_⟩
  cases c with
  | false => simp only [Bool.false_eq_true, if_false] at q' ⊢; exact q'
  | true =>
    simp only [if_true] at q' ⊢
    obtain ⟨c', e', q''⟩ := q'
    cases e'
    exact q''
theorem pe_ifE {c a b : Expr} {mc ma mb : EM} {pos : Pos} (hc : PT X c (tB (tE T W mc))) (ha : PE X a (tE T W ma)) (hb : PE X b (tE T W mb)) : PE X (.IfExp c a b pos) (tE T W (eIf mc ma mb)) := pe_imp (pe_ifExp hc ha hb) fun σ H Q q => t_eIf q
end
/-- a test that writes nothing, where one that may is asked -/
theorem ptE {X : Cx} {T : Tb} {W : WX} {e : Expr} {m : VM} (h : PT X e (tB (tV T m))) : PT X e (tB (tE T W (eV m))) := pt_imp h fun σ H Q q => by
  obtain ⟨Z, F, ρ, E, na, q⟩ := of_tE q
  unfold eV at q
  cases e1 : m ρ with
  | none => rw [e1] at q; exact q.elim
  | some d =>
    rw [e1] at q
    dsimp only at q
    by_cases c : d.noAl = true
    · rw [if_pos c] at q
      exact ⟨Z, F, ρ, d, E, e1, fun v Z' H' B n => q v Z' H' F B (Ny.toNx E na n) n.vd c⟩
    · rw [if_neg c] at q
      exact q.elim
end Rq
end

section
set_option Elab.async false
set_option linter.all false
set_option maxRecDepth 100000
set_option maxHeartbeats 1000000
namespace Rq
open PySem PySem.Spec PyProof.Rows L2

/-! ## == -/
mutual
def PD.py : PD → PyData
  | .non => .none
  | .bl b => .bool b
  | .int i => .int i
  | .str s => .str s
  | .fn _ => .none
  | .xc _ _ => .none
  | .lst l => .list (pyL l)
  | .tup l => .tuple (pyL l)
def pyL : List PD → List PyData
  | [] => []
  | p :: ps => p.py :: pyL ps
end
mutual
/-- data that == tells apart by its content -/
def PD.lay : PD → Bool
  | .non => true
  | .bl _ => true
  | .int _ => true
  | .str s => PyData.strOk s
  | .fn _ => false
  | .xc _ _ => false
  | .lst l => layL l
  | .tup l => layL l
def layL : List PD → Bool
  | [] => true
  | p :: ps => p.lay && layL ps
end
mutual
def PD.dep : PD → Nat
  | .lst l => depL l + 1
  | .tup l => depL l + 1
  | _ => 0
def depL : List PD → Nat
  | [] => 0
  | p :: ps => max p.dep (depL ps)
end
mutual
def eqP : PD → PD → Bool
  | .non, .non => true
  | .bl a, .bl b => a == b
  | .bl a, .int j => (if a then 1 else 0) == j
  | .int i, .bl b => i == (if b then 1 else 0)
  | .int i, .int j => i == j
  | .str x, .str y => x == y
  | .lst xs, .lst ys => eqPL xs ys
  | .tup xs, .tup ys => eqPL xs ys
  | _, _ => false
def eqPL : List PD → List PD → Bool
  | [], [] => true
  | x :: xs, y :: ys => eqP x y && eqPL xs ys
  | _, _ => false
end
mutual
theorem py_lay : ∀ {p : PD}, p.lay = true → p.py.canLay0 = true
  | .non, h => by simp [PD.py, PyData.canLay0]
  | .bl _, h => by simp [PD.py, PyData.canLay0]
  | .int _, h => by simp [PD.py, PyData.canLay0]
  | .str _, h => by simpa [PD.py, PyData.canLay0, PD.lay] using h
  | .fn _, h => by simp [PD.lay] at h
  | .xc _ _, h => by simp [PD.lay] at h
  | .lst l, h => by simp only [PD.py, PyData.canLay0]; exact pyL_lay (by simpa [PD.lay] using h)
  | .tup l, h => by simp only [PD.py, PyData.canLay0]; exact pyL_lay (by simpa [PD.lay] using h)
theorem pyL_lay : ∀ {p : List PD}, layL p = true → PyData.canLayAll0 (pyL p) = true
  | [], h => by simp [pyL, PyData.canLayAll0]
  | p :: ps, h => by
    simp only [layL, Bool.and_eq_true] at h
    simp only [pyL, PyData.canLayAll0, py_lay h.1, pyL_lay h.2, Bool.and_self]
end
mutual
theorem py_dep : ∀ {p : PD}, p.py.depth = p.dep
  | .non => by simp [PD.py, PyData.depth, PD.dep]
  | .bl _ => by simp [PD.py, PyData.depth, PD.dep]
  | .int _ => by simp [PD.py, PyData.depth, PD.dep]
  | .str _ => by simp [PD.py, PyData.depth, PD.dep]
  | .fn _ => by simp [PD.py, PyData.depth, PD.dep]
  | .xc _ _ => by simp [PD.py, PyData.depth, PD.dep]
  | .lst l => by simp only [PD.py, PyData.depth, PD.dep, pyL_dep]
  | .tup l => by simp only [PD.py, PyData.depth, PD.dep, pyL_dep]
theorem pyL_dep : ∀ {p : List PD}, PyData.depthAll (pyL p) = depL p
  | [] => by simp [pyL, PyData.depthAll, depL]
  | p :: ps => by simp only [pyL, PyData.depthAll, depL, py_dep, pyL_dep]
end
mutual
theorem eqP_py : ∀ {p q : PD}, p.lay = true → q.lay = true → eqP p q = PyData.eqv p.py q.py
  | .fn _, q, h, h' => by simp [PD.lay] at h
  | .xc _ _, q, h, h' => by simp [PD.lay] at h
  | .non, q, h, h' => by cases q <;> first | (simp [PD.lay] at h'; done) | simp [eqP, PD.py, PyData.eqv]
  | .bl _, q, h, h' => by cases q <;> first | (simp [PD.lay] at h'; done) | simp [eqP, PD.py, PyData.eqv]
  | .int _, q, h, h' => by cases q <;> first | (simp [PD.lay] at h'; done) | simp [eqP, PD.py, PyData.eqv]
  | .str _, q, h, h' => by cases q <;> first | (simp [PD.lay] at h'; done) | simp [eqP, PD.py, PyData.eqv]
  | .lst l, q, h, h' => by
    cases q with
    | lst l' => simp only [eqP, PD.py, PyData.eqv]; exact eqPL_py (by simpa [PD.lay] using h) (by simpa [PD.lay] using h')
    | fn _ => simp [PD.lay] at h'
    | xc _ _ => simp [PD.lay] at h'
    | _ => simp [eqP, PD.py, PyData.eqv]
  | .tup l, q, h, h' => by
    cases q with
    | tup l' => simp only [eqP, PD.py, PyData.eqv]; exact eqPL_py (by simpa [PD.lay] using h) (by simpa [PD.lay] using h')
    | fn _ => simp [PD.lay] at h'
    | xc _ _ => simp [PD.lay] at h'
    | _ => simp [eqP, PD.py, PyData.eqv]
theorem eqPL_py : ∀ {p q : List PD}, layL p = true → layL q = true → eqPL p q = PyData.eqvAll (pyL p) (pyL q)
  | [], [], h, h' => by simp [eqPL, pyL, PyData.eqvAll]
  | [], _ :: _, h, h' => by simp [eqPL, pyL, PyData.eqvAll]
  | _ :: _, [], h, h' => by simp [eqPL, pyL, PyData.eqvAll]
  | p :: ps, q :: qs, h, h' => by
    simp only [layL, Bool.and_eq_true] at h h'
    simp only [eqPL, pyL, PyData.eqvAll, eqP_py h.1 h'.1, eqPL_py h.2 h'.2]
end
def PD.okE (p : PD) : Bool := p.lay && decide (p.dep ≤ 64)
theorem okE_shaped {p : PD} (h : p.okE = true) : SeqAt.shaped p.py = true := by
  unfold PD.okE at h
  unfold SeqAt.shaped
  simp only [Bool.and_eq_true, decide_eq_true_eq] at h ⊢
  exact ⟨py_lay h.1, by rw [py_dep]; exact h.2⟩
mutual
theorem Vw.dp {T : Tb} {Z : Addr → Prop} {H : Hp} {K : PySem.W.Frag} : ∀ {p : PD} {v : V}, p.lay = true → Vw T Z H p v → Dp K H v p.py
  | .non, v, n, h => by simp only [Vw] at h; subst h; simp only [PD.py]; exact .non
  | .bl _, v, n, h => by simp only [Vw] at h; subst h; simp only [PD.py]; exact .bl _
  | .int _, v, n, h => by simp only [Vw] at h; subst h; simp only [PD.py]; exact .int _
  | .str _, v, n, h => by simp only [Vw] at h; subst h; simp only [PD.py]; exact .str _
  | .fn _, v, n, h => by simp [PD.lay] at n
  | .xc _ _, v, n, h => by simp [PD.lay] at n
  | .lst l, v, n, h => by
    simp only [Vw] at h
    obtain ⟨a, xs, rfl, r, z, q⟩ := h
    simp only [PD.py]
    exact .lst (.inl r) (VwL.dp (by simpa [PD.lay] using n) q)
  | .tup l, v, n, h => by
    simp only [Vw] at h
    obtain ⟨a, xs, rfl, r, q⟩ := h
    simp only [PD.py]
    exact .tup (.inl r) (VwL.dp (by simpa [PD.lay] using n) q)
theorem VwL.dp {T : Tb} {Z : Addr → Prop} {H : Hp} {K : PySem.W.Frag} : ∀ {p : List PD} {v : List V}, layL p = true → VwL T Z H p v → DpAll K H v (pyL p)
  | [], v, n, h => by simp only [VwL] at h; subst h; simp only [pyL]; exact .nil
  | p :: ps, v, n, h => by
    simp only [VwL] at h
    simp only [layL, Bool.and_eq_true] at n
    obtain ⟨x, r, rfl, s, q⟩ := h
    simp only [pyL]
    exact .cons (Vw.dp n.1 s) (VwL.dp n.2 q)
end
def fEq : OD → OD → Option OD := fun x y => if x.toP.okE = true ∧ y.toP.okE = true then some (.pl (.bl (eqP x.toP y.toP))) else none
def fNe : OD → OD → Option OD := fun x y => if x.toP.okE = true ∧ y.toP.okE = true then some (.pl (.bl (!eqP x.toP y.toP))) else none
theorem okE_lay {p : PD} (h : p.okE = true) : p.lay = true := by
  unfold PD.okE at h
  simp only [Bool.and_eq_true] at h
  exact h.1
section
variable {X : Cx} {T : Tb} {W : WX}
theorem o_eq : Op2 T (rEqD X.K) fEq := fun Z H v1 v2 d1 d2 d B1 B2 Q zx h1 h2 nd nz e q => by
  unfold fEq at e
  split at e
  · rename_i c
    cases e
    refine ⟨_, _, h1.all.dp (okE_lay c.1), h2.all.dp (okE_lay c.2), okE_shaped c.1, okE_shaped c.2, ?_⟩
    rw [← eqP_py (okE_lay c.1) (okE_lay c.2)]
    exact q _ Z H [] (Ny.flat zx (by simp only [Vw])) fun _ _ => rfl
  · cases e
theorem o_ne : Op2 T (rNeD X.K) fNe := fun Z H v1 v2 d1 d2 d B1 B2 Q zx h1 h2 nd nz e q => by
  unfold fNe at e
  split at e
  · rename_i c
    cases e
    refine ⟨_, _, h1.all.dp (okE_lay c.1), h2.all.dp (okE_lay c.2), okE_shaped c.1, okE_shaped c.2, ?_⟩
    rw [← eqP_py (okE_lay c.1) (okE_lay c.2)]
    exact q _ Z H [] (Ny.flat zx (by simp only [Vw])) fun _ _ => rfl
  · cases e

/-! ## numbers -/
def fI2 (g : Int → Int → Option PD) : OD → OD → Option OD
  | .pl (.int i), .pl (.int j) => (match g i j with
    | some p => some (.pl p)
    | none => none)
  | _, _ => none
theorem o_i2 {r : R2} {g : Int → Int → Option PD} (hr : ∀ (i j : Int) (p : PD) (H : Hp) (Q : VK), g i j = some p → (∀ v, (∀ (T : Tb) (Z : Addr → Prop) (H : Hp), Vw T Z H p v) → Q v H) → r (.int i) (.int j) H Q) : Op2 T r (fI2 g) := fun Z H v1 v2 d1 d2 d B1 B2 Q zx h1 h2 nd nz e q => by
  unfold fI2 at e
  split at e
  · rename_i i j
    split at e
    · rename_i p eg
      cases e
      have w1 := int_of h1
      have w2 := int_of h2
      subst w1; subst w2
      exact hr i j p H Q eg fun v hv => q v Z H [] (Ny.flat zx (hv T Z H)) fun _ _ => rfl
    · cases e
  · cases e
def iSub (i j : Int) : Option PD := some (.int (i - j))
def iMod (i j : Int) : Option PD := if 0 < j then some (.int (i % j)) else none
def iDiv (i j : Int) : Option PD := if 0 < j ∧ j < 1073741824 then some (.int (i / j)) else none
def iPow (i j : Int) : Option PD := if 0 ≤ j ∧ (Builtin.Int.intBits i : Int) * j ≤ 134217728 then some (.int (i ^ j.toNat)) else none
def iXor (i j : Int) : Option PD := some (.int (Builtin.bitXor i j))
def iLt (i j : Int) : Option PD := some (.bl (decide (i < j)))
def iLe (i j : Int) : Option PD := some (.bl (decide (i ≤ j)))
def iGt (i j : Int) : Option PD := some (.bl (decide (j < i)))
def iGe (i j : Int) : Option PD := some (.bl (decide (j ≤ i)))
theorem vw_int {i : Int} : ∀ (T : Tb) (Z : Addr → Prop) (H : Hp), Vw T Z H (.int i) (.int i) := fun T Z H => by simp only [Vw]
theorem vw_bl {i : Bool} : ∀ (T : Tb) (Z : Addr → Prop) (H : Hp), Vw T Z H (.bl i) (.bl i) := fun T Z H => by simp only [Vw]
theorem vw_str {i : Str} : ∀ (T : Tb) (Z : Addr → Prop) (H : Hp), Vw T Z H (.str i) (.str i) := fun T Z H => by simp only [Vw]
theorem o_sub : Op2 T (rI0 fun i j => .int (i - j)) (fI2 iSub) := o_i2 fun i j p H Q e q => by cases e; exact ⟨i, j, rfl, rfl, q _ vw_int⟩
theorem o_mod : Op2 T (rI (fun _ j => 0 < j) fun i j => .int (i % j)) (fI2 iMod) := o_i2 fun i j p H Q e q => by
  unfold iMod at e
  split at e
  · rename_i c; cases e; exact ⟨i, j, rfl, rfl, c, q _ vw_int⟩
  · cases e
theorem o_div : Op2 T (rI CDiv fun i j => .int (i / j)) (fI2 iDiv) := o_i2 fun i j p H Q e q => by
  unfold iDiv at e
  split at e
  · rename_i c; cases e; exact ⟨i, j, rfl, rfl, c, q _ vw_int⟩
  · cases e
def CPowW (i j : Int) : Prop := 0 ≤ j ∧ (Builtin.Int.intBits i : Int) * j ≤ 134217728
theorem op_powW : OpR X (binaryOp .Pow) (rI CPowW fun i j => .int (i ^ j.toNat)) := opI fun i j t u s Q E c h => PyProof.Rows.pow_int c.1 c.2 h
theorem o_pow : Op2 T (rI CPowW fun i j => .int (i ^ j.toNat)) (fI2 iPow) := o_i2 fun i j p H Q e q => by
  unfold iPow at e
  split at e
  · rename_i c; cases e; exact ⟨i, j, rfl, rfl, c, q _ vw_int⟩
  · cases e
theorem o_xor : Op2 T (rI0 fun i j => .int (Builtin.bitXor i j)) (fI2 iXor) := o_i2 fun i j p H Q e q => by cases e; exact ⟨i, j, rfl, rfl, q _ vw_int⟩
theorem o_lt : Op2 T (rI0 fun i j => .bl (decide (i < j))) (fI2 iLt) := o_i2 fun i j p H Q e q => by cases e; exact ⟨i, j, rfl, rfl, q _ vw_bl⟩
theorem o_le : Op2 T (rI0 fun i j => .bl (decide (i ≤ j))) (fI2 iLe) := o_i2 fun i j p H Q e q => by cases e; exact ⟨i, j, rfl, rfl, q _ vw_bl⟩
theorem o_gt : Op2 T (rI0 fun i j => .bl (decide (j < i))) (fI2 iGt) := o_i2 fun i j p H Q e q => by cases e; exact ⟨i, j, rfl, rfl, q _ vw_bl⟩
theorem o_ge : Op2 T (rI0 fun i j => .bl (decide (j ≤ i))) (fI2 iGe) := o_i2 fun i j p H Q e q => by cases e; exact ⟨i, j, rfl, rfl, q _ vw_bl⟩
def fNeg : OD → Option OD
  | .pl (.int i) => some (.pl (.int (-i)))
  | _ => none
theorem o_neg : Op1 T (rU fun i => .int (-i)) fNeg := fun Z H v1 d1 d B1 Q zx h1 nd nz e q => by
  unfold fNeg at e
  split at e
  · rename_i i
    cases e
    have w := int_of h1
    subst w
    exact ⟨i, rfl, q _ Z H [] (Ny.flat zx (vw_int T Z H)) fun _ => rfl⟩
  · cases e

/-! ## is -/
def PD.isN : PD → Bool
  | .non => true
  | _ => false
def fIsN : OD → OD → Option OD
  | .pl p, .pl .non => some (.pl (.bl p.isN))
  | _, .pl .non => some (.pl (.bl false))
  | _, _ => none
def fNotN : OD → OD → Option OD
  | .pl p, .pl .non => some (.pl (.bl (!p.isN)))
  | _, .pl .non => some (.pl (.bl true))
  | _, _ => none
theorem non_iff {Z : Addr → Prop} {H : Hp} {p : PD} {v : V} (h : Vw T Z H p v) : decide (v = .non) = p.isN := by
  cases p with
  | non => simp only [Vw] at h; subst h; rfl
  | bl _ => simp only [Vw] at h; subst h; rfl
  | int _ => simp only [Vw] at h; subst h; rfl
  | str _ => simp only [Vw] at h; subst h; rfl
  | fn _ => simp only [Vw] at h; subst h; rfl
  | lst _ => simp only [Vw] at h; obtain ⟨a, xs, rfl, _⟩ := h; rfl
  | tup _ => simp only [Vw] at h; obtain ⟨a, xs, rfl, _⟩ := h; rfl
  | xc _ _ => simp only [Vw] at h; obtain ⟨a, d, w, rfl, _⟩ := h; rfl
theorem vd_ref {Z : Addr → Prop} {H : Hp} {d : OD} {v : V} {B : List Addr} (h : Vd T Z H d v B) (n : ∀ p, d ≠ .pl p) : decide (v = .non) = false := by
  cases d with
  | pl p => exact absurd rfl (n p)
  | ol l => simp only [Vd] at h; obtain ⟨a, xs, B', rfl, _⟩ := h; rfl
  | ot l => simp only [Vd] at h; obtain ⟨a, xs, rfl, _⟩ := h; rfl
  | al l => simp only [Vd] at h; obtain ⟨a, xs, rfl, _⟩ := h; rfl
theorem non_of {Z' : Addr → Prop} {H' : Hp} {v : V} {B : List Addr} (h : Vd T Z' H' (.pl .non) v B) : v = .non := by
  simp only [Vd, Vw] at h
  exact h.2
theorem o_isN : Op2 T (fun x y H Q => y = .non ∧ Q (.bl (decide (x = .non))) H) fIsN := fun Z H v1 v2 d1 d2 d B1 B2 Q zx h1 h2 nd nz e q => by
  unfold fIsN at e
  split at e
  · rename_i p
    cases e
    refine ⟨non_of h2, ?_⟩
    have w := h1
    simp only [Vd] at w
    rw [non_iff w.2]
    exact q _ Z H [] (Ny.flat zx (vw_bl T Z H)) fun _ _ => rfl
  · rename_i x n
    cases e
    refine ⟨non_of h2, ?_⟩
    rw [vd_ref h1 (fun p e => n p e)]
    exact q _ Z H [] (Ny.flat zx (vw_bl T Z H)) fun _ _ => rfl
  · cases e
theorem o_notN : Op2 T (fun x y H Q => y = .non ∧ Q (.bl (!decide (x = .non))) H) fNotN := fun Z H v1 v2 d1 d2 d B1 B2 Q zx h1 h2 nd nz e q => by
  unfold fNotN at e
  split at e
  · rename_i p
    cases e
    refine ⟨non_of h2, ?_⟩
    have w := h1
    simp only [Vd] at w
    rw [non_iff w.2]
    exact q _ Z H [] (Ny.flat zx (vw_bl T Z H)) fun _ _ => rfl
  · rename_i x n
    cases e
    refine ⟨non_of h2, ?_⟩
    rw [vd_ref h1 (fun p e => n p e)]
    exact q _ Z H [] (Ny.flat zx (vw_bl T Z H)) fun _ _ => rfl
  · cases e
end
end Rq
end

section
set_option Elab.async false
set_option linter.all false
set_option maxRecDepth 100000
set_option maxHeartbeats 1000000
namespace Rq
open PySem PySem.Spec PyProof.Rows L2

/-! ## lists and tuples as wholes -/
/-- the items, frozen -/
def OD.lstF (d : OD) : Option (List PD) := match d with
  | .al l => allP l
  | d => if d.noAl = true then (match d.toP with
    | .lst l => some l
    | _ => none) else none
def OD.tupF (d : OD) : Option (List PD) := if d.noAl = true then (match d.toP with
    | .tup l => some l
    | _ => none) else none
section
variable {X : Cx} {T : Tb} {W : WX} {Z : Addr → Prop} {H : Hp} {v : V} {B B0 : List Addr} {d : OD} {ps : List PD} {xs : List V}
theorem lstF_vd (h : Vd T Z H d v B) (e : d.lstF = some ps) : ∃ a xs, v = .ref a ∧ Rd H a (.lst xs) ∧ VwL T (fun a => Z a ∨ a ∈ B) H ps xs := by
  have key : d.noAl = true → (match d.toP with
    | .lst l => some l
    | _ => none) = some ps → ∃ a xs, v = .ref a ∧ Rd H a (.lst xs) ∧ VwL T (fun a => Z a ∨ a ∈ B) H ps xs := fun n e => by
    have w := h.frz n
    cases e2 : d.toP with
    | lst l =>
      rw [e2] at e w
      cases e
      simp only [Vw] at w
      obtain ⟨a, xs, ev, r, z, q⟩ := w
      exact ⟨a, xs, ev, r, q⟩
    | _ => rw [e2] at e; cases e
  cases d with
  | al l =>
    simp only [OD.lstF] at e
    simp only [Vd] at h
    obtain ⟨a, xs, ev, r, q⟩ := h
    obtain ⟨w, rfl⟩ := allP_vw e q
    exact ⟨a, xs, ev, r, VwL.mono (fun a o e _ => e) (fun a z => .inl z) w⟩
  | pl p =>
    simp only [OD.lstF] at e
    split at e
    · exact key (by assumption) e
    · cases e
  | ol p =>
    simp only [OD.lstF] at e
    split at e
    · exact key (by assumption) e
    · cases e
  | ot p =>
    simp only [OD.lstF] at e
    split at e
    · exact key (by assumption) e
    · cases e
theorem tupF_vd (h : Vd T Z H d v B) (e : d.tupF = some ps) : ∃ a xs, v = .ref a ∧ Rd H a (.tup xs) ∧ VwL T (fun a => Z a ∨ a ∈ B) H ps xs := by
  unfold OD.tupF at e
  split at e
  · rename_i n
    have w := h.frz n
    cases e2 : d.toP with
    | tup l =>
      rw [e2] at e w
      cases e
      simp only [Vw] at w
      obtain ⟨a, xs, ev, r, q⟩ := w
      exact ⟨a, xs, ev, r, q⟩
    | _ => rw [e2] at e; cases e
  · cases e
theorem zx_or (zx : Zx Z H) (f : ∀ a ∈ B, ∃ xs, H a = some (.lst xs)) : Zx (fun a => Z a ∨ a ∈ B) H := fun a z => z.elim (zx a) fun m => let ⟨ys, e⟩ := f a m; ⟨_, e⟩
theorem VwL.len : ∀ {l : List PD} {xs : List V}, VwL T Z H l xs → xs.length = l.length
  | [], xs, h => by simp only [VwL] at h; subst h; rfl
  | p :: ps, xs, h => by
    simp only [VwL] at h
    obtain ⟨x, r, rfl, s, q⟩ := h
    simp only [List.length_cons, VwL.len q]
theorem VwL.app : ∀ {l m : List PD} {xs ys : List V}, VwL T Z H l xs → VwL T Z H m ys → VwL T Z H (l ++ m) (xs ++ ys)
  | [], m, xs, ys, h, k => by simp only [VwL] at h; subst h; exact k
  | p :: ps, m, xs, ys, h, k => by
    simp only [VwL, List.cons_append] at h ⊢
    obtain ⟨x, r, rfl, s, q⟩ := h
    exact ⟨x, r ++ ys, rfl, s, VwL.app q k⟩
theorem VwL.drop : ∀ {l : List PD} {xs : List V} (n : Nat), VwL T Z H l xs → VwL T Z H (l.drop n) (xs.drop n)
  | [], xs, n, h => by simp only [VwL] at h; subst h; simp [VwL]
  | p :: ps, xs, 0, h => h
  | p :: ps, xs, n + 1, h => by
    simp only [VwL] at h
    obtain ⟨x, r, rfl, s, q⟩ := h
    exact VwL.drop n q
theorem VwL.take : ∀ {l : List PD} {xs : List V} (n : Nat), VwL T Z H l xs → VwL T Z H (l.take n) (xs.take n)
  | [], xs, n, h => by simp only [VwL] at h; subst h; simp [VwL]
  | p :: ps, xs, 0, h => by simp [VwL]
  | p :: ps, xs, n + 1, h => by
    simp only [VwL] at h
    obtain ⟨x, r, rfl, s, q⟩ := h
    simp only [List.take_succ_cons, VwL]
    exact ⟨x, r.take n, rfl, s, VwL.take n q⟩
theorem VwL.get : ∀ {l : List PD} {xs : List V} {i : Nat} {p : PD}, VwL T Z H l xs → l[i]? = some p → ∃ x, xs[i]? = some x ∧ Vw T Z H p x
  | [], xs, i, p, h, e => by simp at e
  | q :: l, xs, i, p, h, e => by
    simp only [VwL] at h
    obtain ⟨x, r, rfl, s, q⟩ := h
    cases i with
    | zero => simp at e; subst e; exact ⟨x, rfl, s⟩
    | succ i => exact VwL.get (i := i) q (by simpa using e)
/-- a new list of frozen items -/
theorem Ny.lst (zx : Zx Z H) (f : ∀ a ∈ B0, ∃ xs, H a = some (.lst xs)) (w : VwL T (fun a => Z a ∨ a ∈ B0) H ps xs) {p : Addr} (hp : H p = none) :
    Ny T Z H B0 (fun a => Z a ∨ a ∈ B0) (upd H p (.lst xs)) (.ol (plL ps)) (.ref p) [p] := by
  have sm : Same H (upd H p (.lst xs)) := fun b o e => by rw [upd_ne (ne_of_none e hp)]; exact e
  have zz := zx_or zx f
  refine ⟨sm, fun a z => .inl z, fun a z => z.imp_right .inl, fun a m => .inr (by rw [List.mem_singleton.mp m]; exact hp), List.nodup_cons.mpr ⟨(fun m => (nomatch m)), List.nodup_nil⟩, fun a m z => ?_, ?_, fun a z => let ⟨o, e⟩ := zz a z; ⟨o, sm _ _ e⟩⟩
  · rw [List.mem_singleton.mp m] at z
    obtain ⟨o, e⟩ := zz p z
    rw [hp] at e; cases e
  · simp only [Vd]
    exact ⟨p, xs, [], rfl, rfl, upd_same, VwL.pl (VwL.mono (Same.kp sm _) (fun _ z => z) w)⟩
theorem Ny.tup (zx : Zx Z H) (f : ∀ a ∈ B0, ∃ xs, H a = some (.lst xs)) (w : VwL T (fun a => Z a ∨ a ∈ B0) H ps xs) {p : Addr} (hp : H p = none) :
    Ny T Z H B0 (fun a => Z a ∨ a ∈ B0) (upd H p (.tup xs)) (.pl (.tup ps)) (.ref p) [] := by
  have sm : Same H (upd H p (.tup xs)) := fun b o e => by rw [upd_ne (ne_of_none e hp)]; exact e
  have zz := zx_or zx f
  refine ⟨sm, fun a z => .inl z, fun a z => z.imp_right .inl, fun a m => (nomatch m), List.nodup_nil, fun a m => (nomatch m), ?_, fun a z => let ⟨o, e⟩ := zz a z; ⟨o, sm _ _ e⟩⟩
  simp only [Vd, Vw]
  exact ⟨trivial, p, xs, rfl, Rd.of upd_same, VwL.mono (Same.kp sm _) (fun _ z => z) w⟩
/-- what was there, frozen -/
theorem Ny.old (zx : Zx Z H) (f : ∀ a ∈ B0, ∃ xs, H a = some (.lst xs)) {p : PD} (w : Vw T (fun a => Z a ∨ a ∈ B0) H p v) :
    Ny T Z H B0 (fun a => Z a ∨ a ∈ B0) H (.pl p) v [] :=
  ⟨fun _ _ e => e, fun a z => .inl z, fun a z => z.imp_right .inl, fun a m => (nomatch m), List.nodup_nil, fun a m => (nomatch m), by simp only [Vd]; exact ⟨trivial, w⟩, zx_or zx f⟩

/-! ### + -/
def rCatR : R2 := fun x y H Q => ∃ l b xs zs, x = .ref l ∧ y = .ref b ∧ Rd H l (.lst xs) ∧ Rd H b (.lst zs) ∧ xs.length + zs.length ≤ sizeLine ∧ ∀ p, H p = none → Q (.ref p) (upd H p (.lst (xs ++ zs)))
theorem op_catR : OpR X (binaryOp .Add) rCatR := by
  intro pins s σ H x y v u Q I rx ry h
  obtain ⟨l, b, xs, zs, rfl, rfl, hH, hB, hz, q⟩ := h
  cases rx
  cases ry
  obtain ⟨z, its, n, r, e⟩ := hH.ok I.hok
  obtain ⟨z2, its2, n2, r2, e2⟩ := hB.ok I.hok
  have l1 := r.length
  have l2 := r2.length
  refine PySem.P.add_list e e2 ?_ (by rw [List.size_toArray, List.size_toArray]; omega)
  rw [show its.toArray ++ its2.toArray = (its ++ its2).toArray by simp]
  exact ⟨.ref _, _, I.lnew (t' := s.toks) (r.append r2) (by rw [List.length_append]; omega), rfl, q _ I.fresh⟩
def strOkL (a b : Str) : Bool := decide (a.length + b.length ≤ 16777216)
def fAdd (x y : OD) : Option OD := match x, y with
  | .pl (.int i), .pl (.int j) => some (.pl (.int (i + j)))
  | .pl (.str a), .pl (.str b) => if strOkL a b = true then some (.pl (.str (a ++ b))) else none
  | x, y => match x.lstF, y.lstF with
    | some l, some m => if l.length + m.length ≤ 16777216 then some (.ol (plL (l ++ m))) else none
    | _, _ => match x.tupF, y.tupF with
      | some l, some m => if l.length + m.length ≤ 16777216 then some (.pl (.tup (l ++ m))) else none
      | _, _ => none
def rAdd4 (K : PySem.W.Frag) : R2 := fun x y H Q => (rI0 (fun i j => .int (i + j)) x y H Q ∨ (∃ i j, x = .str i ∧ y = .str j ∧ i.length + j.length ≤ sizeLine ∧ Q (.str (i ++ j)) H)) ∨ (rCatR x y H Q ∨ rCatA K x y H Q)
theorem op_add4 : OpR X (binaryOp .Add) (rAdd4 X.K) := OpR.or (OpR.or op_add op_add_str) (OpR.or op_catR op_catA)
theorem str_of {Z' : Addr → Prop} {H' : Hp} {b : Str} {v : V} {B : List Addr} (h : Vd T Z' H' (.pl (.str b)) v B) : v = .str b := by
  simp only [Vd, Vw] at h
  exact h.2
theorem foot2 {Z' : Addr → Prop} {H : Hp} {d1 d2 : OD} {v1 v2 : V} {B1 B2 : List Addr} (h1 : Vd T Z H d1 v1 B1) (h2 : Vd T Z' H d2 v2 B2) : ∀ a ∈ B1 ++ B2, ∃ xs, H a = some (.lst xs) := fun a m => (List.mem_append.mp m).elim (h1.foot a) (h2.foot a)
theorem VwL.z1 {B1 B2 : List Addr} (h : VwL T (fun a => Z a ∨ a ∈ B1) H ps xs) : VwL T (fun a => Z a ∨ a ∈ B1 ++ B2) H ps xs := VwL.mono (fun a o e _ => e) (fun a z => z.imp_right (List.mem_append_left _)) h
theorem VwL.z2 {B1 B2 : List Addr} (h : VwL T (fun a => Z a ∨ a ∈ B2) H ps xs) : VwL T (fun a => Z a ∨ a ∈ B1 ++ B2) H ps xs := VwL.mono (fun a o e _ => e) (fun a z => z.imp_right (List.mem_append_right _)) h
theorem plL_noAl {l : List PD} : noAlL (plL l) = true := noAl_vwL_pl
theorem o_add : Op2 T (rAdd4 X.K) fAdd := fun Z H v1 v2 d1 d2 d B1 B2 Q zx h1 h2 nd nz e q => by
  unfold fAdd at e
  have fo := foot2 h1 h2
  split at e
  · cases e
    exact .inl (.inl ⟨_, _, int_of h1, int_of h2, q _ Z H [] (Ny.flat zx (vw_int T Z H)) fun _ _ => rfl⟩)
  · split at e
    · rename_i c
      cases e
      unfold strOkL at c
      simp only [decide_eq_true_eq] at c
      exact .inl (.inr ⟨_, _, str_of h1, str_of h2, by rw [sizeLine_eq]; exact c, q _ Z H [] (Ny.flat zx (vw_str T Z H)) fun _ _ => rfl⟩)
    · cases e
  · split at e
    · rename_i l m e1 e2
      split at e
      · rename_i c
        cases e
        obtain ⟨a, xs, rfl, r1, w1⟩ := lstF_vd h1 e1
        obtain ⟨b, ys, rfl, r2, w2⟩ := lstF_vd h2 e2
        exact .inr (.inl ⟨a, b, xs, ys, rfl, rfl, r1, r2, by rw [w1.len, w2.len, sizeLine_eq]; exact c, fun p hp => q _ _ _ _ (Ny.lst zx fo (VwL.app w1.z1 w2.z2) hp) fun _ _ => plL_noAl⟩)
      · cases e
    · split at e
      · rename_i l m e1 e2
        split at e
        · rename_i c
          cases e
          obtain ⟨a, xs, rfl, r1, w1⟩ := tupF_vd h1 e1
          obtain ⟨b, ys, rfl, r2, w2⟩ := tupF_vd h2 e2
          refine .inr (.inr ⟨a, b, xs, ys, rfl, rfl, sqT_rd r1, sqT_rd r2, by rw [w1.len, w2.len, sizeLine_eq]; exact c, fun ex => ?_, fun _ ey => ?_, fun _ _ p hp => q _ _ _ _ (Ny.tup zx fo (VwL.app w1.z1 w2.z2) hp) fun _ _ => rfl⟩)
          · subst ex
            have : l = [] := List.length_eq_zero_iff.mp w1.len.symm
            subst this
            refine q _ _ _ _ (Ny.old zx fo (p := .tup m) ?_) fun _ _ => rfl
            simp only [Vw]
            exact ⟨b, ys, rfl, r2, w2.z2⟩
          · subst ey
            have : m = [] := List.length_eq_zero_iff.mp w2.len.symm
            subst this
            rw [List.append_nil] at q
            refine q _ _ _ _ (Ny.old zx fo (p := .tup l) ?_) fun _ _ => rfl
            simp only [Vw]
            exact ⟨a, xs, rfl, r1, w1.z1⟩
        · cases e
      · cases e

/-! ### * -/
def repP : Nat → List PD → List PD
  | 0, _ => []
  | n + 1, l => l ++ repP n l
def cMulB (i j : Int) : Bool := (decide (-18446744073709551616 < i) && decide (i < 18446744073709551616)) || (decide (-18446744073709551616 < j) && decide (j < 18446744073709551616))
def fMul (x y : OD) : Option OD := match x, y with
  | .pl (.int i), .pl (.int j) => if cMulB i j = true then some (.pl (.int (i * j))) else none
  | .ol l, .pl (.int k) => (match (OD.ol l).lstF with
    | some ps => if k ≤ 16777216 ∧ -16777216 ≤ k ∧ ps.length * k.toNat ≤ 16777216 then some (.ol (plL (repP k.toNat ps))) else none
    | none => none)
  | _, _ => none
theorem repP_vw (w : VwL T Z H ps xs) : ∀ n : Nat, VwL T Z H (repP n ps) (List.replicate n xs).flatten
  | 0 => by simp [repP, VwL]
  | n + 1 => by
    rw [List.replicate_succ, List.flatten_cons]
    exact VwL.app w (repP_vw w n)
theorem op_mul2 : OpR X (binaryOp .Mult) (fun x y H Q => rI CMul (fun i j => .int (i * j)) x y H Q ∨ rRep x y H Q) := OpR.or op_mul op_rep
theorem o_mul : Op2 T (fun x y H Q => rI CMul (fun i j => .int (i * j)) x y H Q ∨ rRep x y H Q) fMul := fun Z H v1 v2 d1 d2 d B1 B2 Q zx h1 h2 nd nz e q => by
  unfold fMul at e
  have fo := foot2 h1 h2
  split at e
  · split at e
    · rename_i c
      cases e
      unfold cMulB at c
      simp only [Bool.or_eq_true, Bool.and_eq_true, decide_eq_true_eq] at c
      exact .inl ⟨_, _, int_of h1, int_of h2, c, q _ Z H [] (Ny.flat zx (vw_int T Z H)) fun _ _ => rfl⟩
    · cases e
  · rename_i l k
    split at e
    · rename_i ps e1
      split at e
      · rename_i c
        cases e
        obtain ⟨a, xs, rfl, r1, w1⟩ := lstF_vd h1 e1
        simp only [Vd] at h1
        obtain ⟨a', xs', B', ea, eb, hh, _⟩ := h1
        cases ea
        have exs : xs = xs' := by
          rcases r1 with r1 | ⟨o, r1⟩
          · rw [hh] at r1; cases r1; rfl
          · rw [hh] at r1; cases r1
        subst exs
        refine .inr ⟨a, k, xs, rfl, int_of h2, hh, by omega, by omega, by rw [w1.len, sizeLine_eq]; exact c.2.2, fun p hp => q _ _ _ _ (Ny.lst zx fo (repP_vw w1.z1 _) hp) fun _ _ => plL_noAl⟩
      · cases e
    · cases e
  · cases e

/-! ### in -/
def PD.isFl : PD → Bool
  | .non => true
  | .bl _ => true
  | .int _ => true
  | .str _ => true
  | _ => false
def fInB (neg : Bool) (x y : OD) : Option OD := match y.toP with
  | .lst l => if x.toP.okE = true ∧ (PD.lst l).okE = true then some (.pl (.bl (if neg then !(l.any fun z => eqP z x.toP) else l.any fun z => eqP z x.toP))) else none
  | .tup l => if x.toP.isFl = true ∧ l.all PD.isFl = true then some (.pl (.bl (if neg then !(l.any fun z => eqP z x.toP) else l.any fun z => eqP z x.toP))) else none
  | _ => none
theorem op_in2 (hu : X.A.units + 65 < cLine) : OpR X (compareOp .In) (fun x y H Q => rInD X.K x y H Q ∨ rIn X.K false x y H Q) := OpR.or (op_inD hu) op_in_seq
theorem op_notIn2 (hu : X.A.units + 65 < cLine) : OpR X (compareOp .NotIn) (fun x y H Q => rNotInD X.K x y H Q ∨ rIn X.K true x y H Q) := OpR.or (op_notInD hu) op_notIn_seq
theorem any_py {p : PD} (hp : p.lay = true) : ∀ {l : List PD}, layL l = true → ((pyL l).any fun z => PyData.eqv z p.py) = l.any fun z => eqP z p
  | [], h => rfl
  | q :: l, h => by
    simp only [layL, Bool.and_eq_true] at h
    simp only [pyL, List.any_cons, any_py hp h.2, eqP_py h.1 hp]
theorem fl_vw {p : PD} {v : V} (h : Vw T Z H p v) (f : p.isFl = true) : flatV v = true := by
  cases p <;> first | (simp [PD.isFl] at f; done) | (simp only [Vw] at h; subst h; rfl)
theorem eqV_vw {p q : PD} {v w : V} (h : Vw T Z H p v) (k : Vw T Z H q w) (f : p.isFl = true) (g : q.isFl = true) : eqV v w = eqP p q := by
  cases p <;> first | (simp [PD.isFl] at f; done) | skip
  all_goals (cases q <;> first | (simp [PD.isFl] at g; done) | skip)
  all_goals (simp only [Vw] at h k; subst h; subst k; simp [eqV, eqP])
theorem all_fl : ∀ {l : List PD} {xs : List V}, VwL T Z H l xs → l.all PD.isFl = true → xs.all flatV = true
  | [], xs, h, f => by simp only [VwL] at h; subst h; rfl
  | p :: l, xs, h, f => by
    simp only [VwL] at h
    obtain ⟨x, r, rfl, s, q⟩ := h
    simp only [List.all_cons, Bool.and_eq_true] at f ⊢
    exact ⟨fl_vw s f.1, all_fl q f.2⟩
theorem inV_vw {p : PD} {v : V} (h : Vw T Z H p v) (g : p.isFl = true) : ∀ {l : List PD} {xs : List V}, VwL T Z H l xs → l.all PD.isFl = true → inV v xs = l.any fun z => eqP z p
  | [], xs, k, f => by simp only [VwL] at k; subst k; rfl
  | q :: l, xs, k, f => by
    simp only [VwL] at k
    obtain ⟨x, r, rfl, s, q⟩ := k
    simp only [List.all_cons, Bool.and_eq_true] at f
    have ih := inV_vw h g q f.2
    unfold inV at ih ⊢
    simp only [List.any_cons, ih, eqV_vw s h f.1 g]
theorem o_inG (neg : Bool) {rD : R2} (hD : ∀ x y H Q, (∃ d ds, Dp X.K H x d ∧ Dp X.K H y (.list ds) ∧ SeqAt.shaped d = true ∧ SeqAt.shaped (.list ds) = true ∧ Q (.bl (if neg then !(ds.any fun z => PyData.eqv z d) else ds.any fun z => PyData.eqv z d)) H) → rD x y H Q) :
    Op2 T (fun x y H Q => rD x y H Q ∨ rIn X.K neg x y H Q) (fInB neg) := fun Z H v1 v2 d1 d2 d B1 B2 Q zx h1 h2 nd nz e q => by
  unfold fInB at e
  have w1 := h1.all
  have w2 := h2.all
  split at e
  · rename_i l e2
    split at e
    · rename_i c
      cases e
      rw [e2] at w2
      refine .inl (hD _ _ _ _ ⟨_, pyL l, w1.dp (okE_lay c.1), by have := w2.dp (K := X.K) (okE_lay c.2); simpa only [PD.py] using this, okE_shaped c.1, by have := okE_shaped c.2; simpa only [PD.py] using this, ?_⟩)
      rw [any_py (okE_lay c.1) (by have := okE_lay c.2; simpa only [PD.lay] using this)]
      exact q _ Z H [] (Ny.flat zx (vw_bl T Z H)) fun _ _ => rfl
    · cases e
  · rename_i l e2
    split at e
    · rename_i c
      cases e
      rw [e2] at w2
      simp only [Vw] at w2
      obtain ⟨a, xs, rfl, r, w⟩ := w2
      refine .inr ⟨a, xs, rfl, .inr (sqT_rd r), fl_vw w1 c.1, all_fl w c.2, ?_⟩
      rw [inV_vw w1 c.1 w c.2]
      exact q _ Z H [] (Ny.flat zx (vw_bl T Z H)) fun _ _ => rfl
    · cases e
  · cases e
def fIn : OD → OD → Option OD := fInB false
def fNotIn : OD → OD → Option OD := fInB true
theorem o_in : Op2 T (fun x y H Q => rInD X.K x y H Q ∨ rIn X.K false x y H Q) fIn := o_inG false fun x y H Q h => h
theorem o_notIn : Op2 T (fun x y H Q => rNotInD X.K x y H Q ∨ rIn X.K true x y H Q) fNotIn := o_inG true fun x y H Q h => h
end
end Rq
end

section
set_option Elab.async false
set_option linter.all false
set_option maxRecDepth 100000
set_option maxHeartbeats 1000000
namespace Rq
open PySem PySem.Spec PyProof.Rows L2

/-! ## subscripts -/
def fIx (x y : OD) : Option OD := match y with
  | .pl (.int i) => match x.kids with
    | some l => (match atI l i with
      | some d => if d.noAl = true ∨ x.noAl = false then some d else none
      | none => none)
    | none => none
  | _ => none
def cutP (ps : List PD) (lo hi : Option Int) : List PD := (ps.drop (HT.sIx ps.length 0 lo)).take (HT.sIx ps.length ps.length hi - HT.sIx ps.length 0 lo)
def fSl (d : OD) (lo hi : Option Int) : Option OD := match d.lstF with
  | some ps => some (.ol (plL (cutP ps lo hi)))
  | none => match d.tupF with
    | some ps => some (.pl (.tup (cutP ps lo hi)))
    | none => none
section
variable {X : Cx} {T : Tb} {W : WX} {Z : Addr → Prop} {H : Hp} {v : V} {B B0 : List Addr} {d : OD} {ps : List PD} {xs : List V}
theorem atI_vd {l : List OD} {i : Int} (h : VdL T Z H l xs []) (e : atI l i = some d) : ∃ x, atI xs i = some x ∧ Vd T Z H d x [] := by
  unfold atI at e ⊢
  rw [h.len]
  cases c : ixN l.length i with
  | none => rw [c] at e; cases e
  | some j =>
    rw [c] at e
    exact h.get e
theorem ix_two : IxR X (fun x y H Q => rIxL X.K x y H Q ∨ rIxT X.K x y H Q) := IxR.or ix_list ix_tup
theorem o_ix : Op2 T (fun x y H Q => rIxL X.K x y H Q ∨ rIxT X.K x y H Q) fIx := fun Z H v1 v2 d1 d2 d B1 B2 Q zx h1 h2 nd nz e q => by
  unfold fIx at e
  split at e
  · rename_i i
    split at e
    · rename_i l ek
      split at e
      · rename_i d' ea
        split at e
        · rename_i c
          cases e
          obtain ⟨a, xs, rfl, rd, hv⟩ := h1.kids ek
          obtain ⟨x, ex, hx⟩ := atI_vd hv ea
          have fin : Q x H := q x Z H [] ⟨fun _ _ e => e, fun _ z => z, fun _ z => .inl z, fun _ m => (nomatch m), List.nodup_nil, fun _ m => (nomatch m), hx, zx⟩ fun n _ => c.elim id fun c => by rw [n] at c; cases c
          rcases rd with rd | rd
          · exact .inl ⟨a, xs, i, x, rfl, int_of h2, sqL_rd rd, ex, fin⟩
          · exact .inr ⟨a, xs, i, x, rfl, int_of h2, sqT_rd rd, ex, fin⟩
        · cases e
      · cases e
    · cases e
  · cases e
theorem pv_ix {a b : Expr} {ma mb : VM} {pos : Pos} (ha : PE X a (tV T ma)) (hb : PE X b (tV T mb)) (hs : PlainIx b := by intro _ _; rfl) : PE X (.Subscript a b pos) (tV T (v2 fIx ma mb)) := pe_imp (pe_ix ix_two ha hb hs) fun σ H Q q => t_V2 o_ix q
theorem pe_ixE {a b : Expr} {ma mb : EM} {pos : Pos} (ha : PE X a (tE T W ma)) (hb : PE X b (tE T W mb)) (hs : PlainIx b := by intro _ _; rfl) : PE X (.Subscript a b pos) (tE T W (e2 fIx ma mb)) := pe_imp (pe_ix ix_two ha hb hs) fun σ H Q q => t_E2 o_ix q
/-! slices -/
def tPO (T : Tb) (o : En → Option (Option Int)) : TO := fun σ H Q => ∃ Z F ρ i, Ev T Z H ρ σ F ∧ o ρ = some i ∧ ∀ Z' H', Same H H' → (∀ a, Z a → Z' a) → (∀ a, Z' a → Z a ∨ H a = none) → Zx Z' H' → Q i H'
theorem po_imp {e : Option Expr} {t t' : TO} (h : PO X e t) (i : ∀ σ H Q, t' σ H Q → t σ H Q) : PO X e t' := ⟨fun pins s σ H Q I q => h.run pins s σ H Q I (i σ H Q q)⟩
def pNo : En → Option (Option Int) := fun _ => some none
def pYes (m : VM) : En → Option (Option Int) := fun ρ => match m ρ with
  | some (.pl (.int i)) => some (some i)
  | _ => none
theorem fo_none : PO X none (tPO T pNo) := po_imp po_none fun σ H Q q => by
  obtain ⟨Z, F, ρ, i, E, e, q⟩ := q
  cases e
  exact q Z H (fun _ _ e => e) (fun _ z => z) (fun _ z => .inl z) E.zx
theorem fo_some {e : Expr} {m : VM} (h : PE X e (tV T m)) : PO X (some e) (tPO T (pYes m)) := po_imp (po_some h) fun σ H Q q => by
  obtain ⟨Z, F, ρ, i, E, e, q⟩ := q
  unfold pYes at e
  split at e
  · rename_i j e2
    cases e
    exact ⟨Z, F, ρ, _, E, e2, fun v Z' H' B n => ⟨j, int_of n.vd, q Z' H' n.same n.up (fun a z => (n.dn a z).imp_right fun z => z.elim (fun z => (nomatch z)) id) n.zx⟩⟩
  · cases e
def vSl (m : VM) (lo hi : En → Option (Option Int)) : VM := fun ρ => match m ρ, lo ρ, hi ρ with
  | some d, some l, some h => fSl d l h
  | _, _, _ => none
theorem sl_two : SlR X (fun x lo hi H Q => rSlL X.K x lo hi H Q ∨ rSlA X.K x lo hi H Q) := SlR.or sl_list sl_tupA
theorem cut_vw {lo hi : Option Int} (w : VwL T Z H ps xs) : VwL T Z H (cutP ps lo hi) (cutV xs lo hi) := by
  unfold cutP cutV
  rw [w.len]
  exact VwL.take _ (VwL.drop _ w)
theorem cut_all {lo hi : Option Int} {α : Type} {l : List α} (h : HT.sIx l.length 0 lo = 0 ∧ HT.sIx l.length l.length hi = l.length) : (l.drop (HT.sIx l.length 0 lo)).take (HT.sIx l.length l.length hi - HT.sIx l.length 0 lo) = l := by
  rw [h.1, h.2]
  simp
theorem pv_sl {e : Expr} {m : VM} {l h : Option Expr} {lo hi : En → Option (Option Int)} {p2 pos : Pos} (he : PE X e (tV T m)) (hl : PO X l (tPO T lo)) (hh : PO X h (tPO T hi)) : PE X (.Subscript e (.Slice l h none p2) pos) (tV T (vSl m lo hi)) :=
  pe_imp (pe_slice sl_two he hl hh) fun σ H Q q => by
    obtain ⟨Z, F, ρ, d, E, e1, q⟩ := q
    unfold vSl at e1
    split at e1
    · rename_i d0 i j em el eh
      refine ⟨Z, F, ρ, d0, E, em, fun v Z1 H1 B1 n => ?_⟩
      refine ⟨Z1, F, ρ, i, n.ev E (fun _ m => (nomatch m)), el, fun Z2 H2 s2 u2 d2 x2 => ?_⟩
      have E2 : Ev T Z2 H2 ρ σ F := (n.ev E (fun _ m => (nomatch m))).same s2 u2 (fun a z => (d2 a z).imp_right fun z i m => by
        obtain ⟨xs, e⟩ := (n.ev E (fun _ m => (nomatch m))).foot m
        rw [z] at e; cases e) x2
      refine ⟨Z2, F, ρ, j, E2, eh, fun Z3 H3 s3 u3 d3 x3 => ?_⟩
      -- the value stands
      have sm : Same H1 H3 := s2.trans s3
      have hv := Vd.same (Z' := Z3) (fun a z => u3 a (u2 a z)) sm n.vd
      have dn : ∀ a, Z3 a → Z1 a ∨ H1 a = none := fun a z => by
        rcases d3 a z with z | z
        · exact d2 a z
        · exact .inr (s2.free z)
      have n3 : Ny T Z H [] Z3 H3 d0 v B1 := ⟨n.same.trans sm, fun a z => u3 a (u2 a (n.up a z)), fun a z => by
        rcases dn a z with z | z
        · exact n.dn a z
        · exact .inr (.inr (n.same.free z)), n.fr, n.nd, (fun a m z => by
        rcases dn a z with z | z
        · exact n.nz a m z
        · obtain ⟨ys, e⟩ := n.vd.foot a m
          rw [z] at e; cases e), hv, x3⟩
      unfold fSl at e1
      split at e1
      · rename_i ps e3
        cases e1
        obtain ⟨a, xs, rfl, r1, w1⟩ := lstF_vd hv e3
        exact .inl ⟨a, xs, rfl, sqL_rd r1, fun p hp => q _ _ _ _ (n3.tr (Ny.lst x3 hv.foot (cut_vw w1) hp))⟩
      · split at e1
        · rename_i ps e3
          cases e1
          obtain ⟨a, xs, rfl, r1, w1⟩ := tupF_vd hv e3
          refine .inr ⟨a, xs, rfl, sqT_rd r1, fun c => ?_, fun c p hp => q _ _ _ _ (n3.tr (Ny.tup x3 hv.foot (cut_vw w1) hp))⟩
          rw [w1.len] at c
          have ec : cutP ps i j = ps := cut_all c
          rw [ec] at q
          refine q _ _ _ _ (n3.tr (Ny.old x3 hv.foot (p := .tup ps) ?_))
          simp only [Vw]
          exact ⟨a, xs, rfl, r1, w1⟩
        · cases e1
    · cases e1
/-- [::-1] of a list -/
def fRev (d : OD) : Option OD := match d.lstF with
  | some ps => some (.ol (plL ps.reverse))
  | none => none
theorem VwL.rev : ∀ {l : List PD} {xs : List V}, VwL T Z H l xs → VwL T Z H l.reverse xs.reverse
  | [], xs, h => by simp only [VwL] at h; subst h; simp [VwL]
  | p :: ps, xs, h => by
    simp only [VwL] at h
    obtain ⟨x, r, rfl, s, q⟩ := h
    rw [List.reverse_cons, List.reverse_cons]
    exact VwL.app (VwL.rev q) (by simp only [VwL]; exact ⟨x, [], rfl, s, rfl⟩)
theorem pv_rev {e : Expr} {m : VM} {k : Nat} {p1 p2 p3 pos : Pos} (he : PE X e (tV T m)) : PE X (.Subscript e (.Slice none none (some (.UnaryOp .USub (.Constant (.int 1) k p1) p2)) p3) pos) (tV T (v1 fRev m)) := pe_imp (pe_revL he) fun σ H Q q => by
  obtain ⟨Z, F, ρ, d, E, e1, q⟩ := q
  unfold v1 at e1
  cases em : m ρ with
  | none => rw [em] at e1; cases e1
  | some d0 =>
    rw [em] at e1
    simp only [Option.bind_some] at e1
    unfold fRev at e1
    refine ⟨Z, F, ρ, d0, E, em, fun v Z1 H1 B1 n => ?_⟩
    split at e1
    · rename_i ps e3
      cases e1
      obtain ⟨a, xs, rfl, r1, w1⟩ := lstF_vd n.vd e3
      exact ⟨a, xs, rfl, sqL_rd r1, fun p hp => q _ _ _ _ (n.tr (Ny.lst n.zx n.vd.foot w1.rev hp))⟩
    · cases e1

/-! ## calls of what is built in -/
def Cal (T : Tb) (r : List V → Hp → VK → Prop) (f : List OD → Option OD) : Prop :=
  ∀ (Z : Addr → Prop) (H : Hp) (xs : List V) (l : List OD) (d : OD) (B : List Addr) (Q : VK), Zx Z H → VdL T Z H l xs B → B.Nodup → (∀ a ∈ B, ¬ Z a) → f l = some d →
    (∀ v Z' H' B', Ny T Z H B Z' H' d v B' → (noAlL l = true → d.noAl = true) → Q v H') → r xs H Q
def vCal (f : List OD → Option OD) (m : AV) : VM := fun ρ => match m ρ with
  | some l => f l
  | none => none
def eCal (f : List OD → Option OD) (as : List Ag) : EM := fun ρ => match evA as ρ with
  | .ok l ρ1 => (match f l with
    | some d => .ok d ρ1
    | none => .st)
  | .ex k p ρ1 => .ex k p ρ1
  | .st => .st
theorem NyL.tr {Z Z1 Z' : Addr → Prop} {H H1 H' : Hp} {l : List OD} {xs : List V} {B B' : List Addr} (n : NyL T Z H Z1 H1 l xs B) (m : Ny T Z1 H1 B Z' H' d v B') : Ny T Z H [] Z' H' d v B' :=
  ⟨n.same.trans m.same, fun a z => m.up a (n.up a z), fun a z => by
    rcases m.dn a z with z | z | z
    · exact (n.dn a z).imp_right .inr
    · exact .inr (.inr (n.fr a z))
    · exact .inr (.inr (n.same.free z)), fun a h => by
    rcases m.fr a h with z | z
    · exact .inr (n.fr a z)
    · exact .inr (n.same.free z), m.nd, m.nz, m.vd, m.zx⟩
theorem t_cal {r : List V → Hp → VK → Prop} {f : List OD → Option OD} (ho : Cal T r f) {m : AV} {σ : L2.St} {H : Hp} {Q : VK} (h : tV T (vCal f m) σ H Q) : tCB r (tAV T m) σ H Q := by
  obtain ⟨Z, F, ρ, d, E, e1, q⟩ := h
  unfold vCal at e1
  cases em : m ρ with
  | none => rw [em] at e1; cases e1
  | some l =>
    rw [em] at e1
    exact ⟨Z, F, ρ, l, E, em, fun xs Z1 H1 B1 n => ho Z1 H1 xs l d B1 Q n.zx n.vd n.nd n.nz e1 fun v Z' H' B' k _ => q v Z' H' B' (n.tr k)⟩
theorem t_calE {r : List V → Hp → VK → Prop} {f : List OD → Option OD} (ho : Cal T r f) {as : List Ag} {σ : L2.St} {H : Hp} {Q : VK} (h : tE T W (eCal f as) σ H Q) : tCB r (tAE T W as) σ H Q := by
  obtain ⟨Z, F, ρ, E, na, q⟩ := h
  refine ⟨Z, F, ρ, E, na, ?_⟩
  unfold eCal at q
  cases ea : evA as ρ with
  | st => rw [ea] at q; exact q
  | ex k p ρ1 => rw [ea] at q; exact q
  | ok l ρ1 =>
    rw [ea] at q
    intro xs Z1 H1 F1 B1 n hl nl le
    dsimp only at q
    cases ef : f l with
    | none => rw [ef] at q; exact q.elim
    | some d =>
      rw [ef] at q
      exact ho Z1 H1 xs l d B1 Q n.ev.zx hl n.nd n.nz ef fun v Z' H' B' k nk => q v Z' H' F1 B' (Ny.nx E n hl.foot k) k.vd (nk nl)
theorem pv_cal {id : String} {x : Str} {e : Expr} {es : List Expr} {r : List V → Hp → VK → Prop} {f : List OD → Option OD} {m : AV} {p pos : Pos} (hc : CallR X (.builtin id) r) (ho : Cal T r f) (hg : Gl X x) (hm : X.mg x = none) (hv : bootBuiltins x = some (.builtin id)) (ha : PA X (e :: es) (tAV T m)) (hn : x ≠ "__name__" := by decide) (hdb : (x == ("__debug__" : Str)) = false := by decide)
    (he : starEach (e :: es) X.env = (false, eval e X.env) :: starEach es X.env := by rfl) (hpl : (backTo pos (starEach es X.env)).any (·.1) = false := by rfl) : PE X (.Call (.Name x p) (e :: es) [] pos) (tV T (vCal f m)) := pe_imp (pe_callB hc hg hm hv ha hn hdb he hpl) fun σ H Q q => t_cal ho q
theorem pv_calT {id : String} {x : Str} {e : Expr} {es : List Expr} {r : List V → Hp → VK → Prop} {f : List OD → Option OD} {m : AV} {p pos : Pos} (hc : CallR X (.type id) r) (ho : Cal T r f) (hg : Gl X x) (hm : X.mg x = none) (hv : bootBuiltins x = some (.type id)) (ha : PA X (e :: es) (tAV T m)) (hn : x ≠ "__name__" := by decide) (hdb : (x == ("__debug__" : Str)) = false := by decide)
    (he : starEach (e :: es) X.env = (false, eval e X.env) :: starEach es X.env := by rfl) (hpl : (backTo pos (starEach es X.env)).any (·.1) = false := by rfl) : PE X (.Call (.Name x p) (e :: es) [] pos) (tV T (vCal f m)) := pe_imp (pe_callTy hc hg hm hv ha hn hdb he hpl) fun σ H Q q => t_cal ho q
theorem pe_calE {id : String} {x : Str} {e : Expr} {es : List Expr} {r : List V → Hp → VK → Prop} {f : List OD → Option OD} {as : List Ag} {p pos : Pos} (hc : CallR X (.builtin id) r) (ho : Cal T r f) (hg : Gl X x) (hm : X.mg x = none) (hv : bootBuiltins x = some (.builtin id)) (ha : PA X (e :: es) (tAE T W as)) (hn : x ≠ "__name__" := by decide) (hdb : (x == ("__debug__" : Str)) = false := by decide)
    (he : starEach (e :: es) X.env = (false, eval e X.env) :: starEach es X.env := by rfl) (hpl : (backTo pos (starEach es X.env)).any (·.1) = false := by rfl) : PE X (.Call (.Name x p) (e :: es) [] pos) (tE T W (eCal f as)) := pe_imp (pe_callB hc hg hm hv ha hn hdb he hpl) fun σ H Q q => t_calE ho q
theorem pe_calTE {id : String} {x : Str} {e : Expr} {es : List Expr} {r : List V → Hp → VK → Prop} {f : List OD → Option OD} {as : List Ag} {p pos : Pos} (hc : CallR X (.type id) r) (ho : Cal T r f) (hg : Gl X x) (hm : X.mg x = none) (hv : bootBuiltins x = some (.type id)) (ha : PA X (e :: es) (tAE T W as)) (hn : x ≠ "__name__" := by decide) (hdb : (x == ("__debug__" : Str)) = false := by decide)
    (he : starEach (e :: es) X.env = (false, eval e X.env) :: starEach es X.env := by rfl) (hpl : (backTo pos (starEach es X.env)).any (·.1) = false := by rfl) : PE X (.Call (.Name x p) (e :: es) [] pos) (tE T W (eCal f as)) := pe_imp (pe_callTy hc hg hm hv ha hn hdb he hpl) fun σ H Q q => t_calE ho q
end
end Rq
end

section
set_option Elab.async false
set_option linter.all false
set_option maxRecDepth 100000
set_option maxHeartbeats 1000000
namespace Rq
open PySem PySem.Spec PyProof.Rows L2

section
variable {X : Cx} {T : Tb} {W : WX} {Z : Addr → Prop} {H : Hp} {v : V} {B B0 : List Addr} {d : OD} {ps : List PD} {xs : List V}
/-! ### one argument -/
theorem VdL.one1 {d : OD} (h : VdL T Z H [d] xs B) : ∃ x, xs = [x] ∧ Vd T Z H d x B := by
  simp only [VdL] at h
  obtain ⟨x, r, B1, B2, rfl, rfl, s, rfl, rfl⟩ := h
  exact ⟨x, rfl, by simpa using s⟩
theorem VdL.two2 {d e : OD} (h : VdL T Z H [d, e] xs B) : ∃ x y B1 B2, xs = [x, y] ∧ B = B1 ++ B2 ∧ Vd T Z H d x B1 ∧ Vd T Z H e y B2 := by
  simp only [VdL] at h
  obtain ⟨x, r, B1, B2, rfl, rfl, s, y, r', C1, C2, rfl, rfl, t, rfl, rfl⟩ := h
  exact ⟨x, y, B1, C1, rfl, by simp, s, t⟩
/-- len -/
def OD.len : OD → Option Nat
  | .pl (.lst l) => some l.length
  | .pl (.tup l) => some l.length
  | .pl (.str s) => if s.length ≤ 16777216 then some s.length else none
  | .pl _ => none
  | .ol l => some l.length
  | .ot l => some l.length
  | .al l => some l.length
def fLen : List OD → Option OD
  | [d] => match d.len with
    | some n => some (.pl (.int n))
    | none => none
  | _ => none
theorem len_ok {n : Nat} (h : Vd T Z H d v B) (e : d.len = some n) {K : PySem.W.Frag} : LenV K v H n := by
  cases d with
  | pl p =>
    simp only [Vd] at h
    have h := h.2
    cases p with
    | lst l =>
      simp only [OD.len, Option.some.injEq] at e
      subst e
      simp only [Vw] at h
      obtain ⟨a, xs, rfl, r, z, q⟩ := h
      exact .inl ⟨xs, sqL_rd r, q.len.symm⟩
    | tup l =>
      simp only [OD.len, Option.some.injEq] at e
      subst e
      simp only [Vw] at h
      obtain ⟨a, xs, rfl, r, q⟩ := h
      exact .inr ⟨xs, sqT_rd r, q.len.symm⟩
    | str s =>
      simp only [OD.len] at e
      split at e
      · rename_i c
        cases e
        simp only [Vw] at h
        subst h
        exact ⟨by rw [sizeLine_eq]; exact c, rfl⟩
      · cases e
    | _ => simp [OD.len] at e
  | ol l =>
    simp only [OD.len, Option.some.injEq] at e
    subst e
    simp only [Vd] at h
    obtain ⟨a, xs, B', rfl, b, r, q⟩ := h
    exact .inl ⟨xs, sqL_rd (Rd.of r), q.len.symm⟩
  | ot l =>
    simp only [OD.len, Option.some.injEq] at e
    subst e
    simp only [Vd] at h
    obtain ⟨a, xs, rfl, r, q⟩ := h
    exact .inr ⟨xs, sqT_rd r, q.len.symm⟩
  | al l =>
    simp only [OD.len, Option.some.injEq] at e
    subst e
    simp only [Vd] at h
    obtain ⟨a, xs, rfl, r, q⟩ := h
    exact .inl ⟨xs, sqL_rd r, q.len.symm⟩
theorem c_len : Cal T (fun xs H Q => ∃ x n, xs = [x] ∧ LenV X.K x H n ∧ Q (.int n) H) fLen := fun Z H xs l d B Q zx h nd nz e q => by
  unfold fLen at e
  split at e
  · obtain ⟨x, rfl, hx⟩ := h.one1
    split at e
    · rename_i n en
      cases e
      exact ⟨x, n, rfl, len_ok hx en, q _ Z H [] (Ny.flat zx (vw_int T Z H)) fun _ => rfl⟩
    · cases e
  · cases e
/-- int(..) of a number, a truth value -/
def fInt : List OD → Option OD
  | [.pl (.int i)] => some (.pl (.int i))
  | [.pl (.bl b)] => some (.pl (.int (if b then 1 else 0)))
  | _ => none
theorem c_int : Cal T (fun xs H Q => (∃ i, xs = [.int i] ∧ Q (.int i) H) ∨ ∃ k, xs = [.bl k] ∧ Q (.int (if k then 1 else 0)) H) fInt := fun Z H xs l d B Q zx h nd nz e q => by
  unfold fInt at e
  split at e
  · cases e
    obtain ⟨x, rfl, hx⟩ := h.one1
    exact .inl ⟨_, by rw [int_of hx], q _ Z H [] (Ny.flat zx (vw_int T Z H)) fun _ => rfl⟩
  · cases e
    obtain ⟨x, rfl, hx⟩ := h.one1
    exact .inr ⟨_, by rw [bl_of hx], q _ Z H [] (Ny.flat zx (vw_int T Z H)) fun _ => rfl⟩
  · cases e
/-- list(..), tuple(..) -/
def fList : List OD → Option OD
  | [d] => match d.lstF with
    | some l => some (.ol (plL l))
    | none => match d.tupF with
      | some l => some (.ol (plL l))
      | none => none
  | _ => none
def fTuple : List OD → Option OD
  | [d] => match d.lstF with
    | some l => some (.pl (.tup l))
    | none => match d.tupF with
      | some l => some (.pl (.tup l))
      | none => none
  | _ => none
theorem c_list : Cal T (fun xs H Q => ∃ p ys, xs = [.ref p] ∧ (SqL X.K H p ys ∨ SqT X.K H p ys) ∧ ∀ l, H l = none → Q (.ref l) (upd H l (.lst ys))) fList := fun Z H xs l d B Q zx h nd nz e q => by
  unfold fList at e
  split at e
  · obtain ⟨x, rfl, hx⟩ := h.one1
    split at e
    · rename_i ps e1
      cases e
      obtain ⟨a, ys, rfl, r, w⟩ := lstF_vd hx e1
      exact ⟨a, ys, rfl, .inl (sqL_rd r), fun p hp => q _ _ _ _ (Ny.lst zx hx.foot w hp) fun _ => plL_noAl⟩
    · split at e
      · rename_i ps e1
        cases e
        obtain ⟨a, ys, rfl, r, w⟩ := tupF_vd hx e1
        exact ⟨a, ys, rfl, .inr (sqT_rd r), fun p hp => q _ _ _ _ (Ny.lst zx hx.foot w hp) fun _ => plL_noAl⟩
      · cases e
  · cases e
theorem c_tuple : Cal T (fun xs H Q => ∃ p ys, xs = [.ref p] ∧ ((SqL X.K H p ys ∧ ∀ l, H l = none → Q (.ref l) (upd H l (.tup ys))) ∨ (SqT X.K H p ys ∧ Q (.ref p) H))) fTuple := fun Z H xs l d B Q zx h nd nz e q => by
  unfold fTuple at e
  split at e
  · obtain ⟨x, rfl, hx⟩ := h.one1
    split at e
    · rename_i ps e1
      cases e
      obtain ⟨a, ys, rfl, r, w⟩ := lstF_vd hx e1
      exact ⟨a, ys, rfl, .inl ⟨sqL_rd r, fun p hp => q _ _ _ _ (Ny.tup zx hx.foot w hp) fun _ => rfl⟩⟩
    · split at e
      · rename_i ps e1
        cases e
        obtain ⟨a, ys, rfl, r, w⟩ := tupF_vd hx e1
        refine ⟨a, ys, rfl, .inr ⟨sqT_rd r, q _ _ _ _ (Ny.old zx hx.foot (p := .tup ps) ?_) fun _ => rfl⟩⟩
        simp only [Vw]
        exact ⟨a, ys, rfl, r, w⟩
      · cases e
  · cases e
/-- numbers out of data -/
def intsP : List PD → Option (List Int)
  | [] => some []
  | .int i :: l => (match intsP l with
    | some r => some (i :: r)
    | none => none)
  | _ :: _ => none
theorem intsP_vw : ∀ {ps : List PD} {ns : List Int} {xs : List V}, intsP ps = some ns → VwL T Z H ps xs → xs = ns.map V.int
  | [], ns, xs, e, h => by
    simp only [intsP, Option.some.injEq] at e
    subst e
    simp only [VwL] at h
    subst h
    rfl
  | .int i :: l, ns, xs, e, h => by
    simp only [intsP] at e
    cases e1 : intsP l with
    | none => rw [e1] at e; cases e
    | some r =>
      rw [e1] at e
      cases e
      simp only [VwL, Vw] at h
      obtain ⟨x, r', rfl, rfl, q⟩ := h
      rw [intsP_vw e1 q]
      rfl
  | .non :: l, ns, xs, e, h => by cases e
  | .bl _ :: l, ns, xs, e, h => by cases e
  | .str _ :: l, ns, xs, e, h => by cases e
  | .fn _ :: l, ns, xs, e, h => by cases e
  | .lst _ :: l, ns, xs, e, h => by cases e
  | .tup _ :: l, ns, xs, e, h => by cases e
  | .xc _ _ :: l, ns, xs, e, h => by cases e
def intsL : List Int → List PD
  | [] => []
  | i :: l => .int i :: intsL l
theorem intsL_vw : ∀ (ns : List Int), VwL T Z H (intsL ns) (ns.map V.int)
  | [] => by simp [intsL, VwL]
  | i :: l => by
    simp only [intsL, List.map_cons, VwL, Vw]
    exact ⟨_, _, rfl, rfl, intsL_vw l⟩
def OD.ints (d : OD) : Option (List Int) := match d.lstF with
  | some ps => intsP ps
  | none => none
theorem ints_vd {ns : List Int} (h : Vd T Z H d v B) (e : d.ints = some ns) : ∃ a, v = .ref a ∧ Rd H a (.lst (ns.map V.int)) := by
  unfold OD.ints at e
  split at e
  · rename_i ps e1
    obtain ⟨a, xs, rfl, r, w⟩ := lstF_vd h e1
    rw [intsP_vw e w] at r
    exact ⟨a, rfl, r⟩
  · cases e
def fSum : List OD → Option OD
  | [d] => match d.ints with
    | some ns => some (.pl (.int ns.sum))
    | none => none
  | _ => none
theorem c_sum : Cal T (rSum X.K) fSum := fun Z H xs l d B Q zx h nd nz e q => by
  unfold fSum at e
  split at e
  · obtain ⟨x, rfl, hx⟩ := h.one1
    split at e
    · rename_i ns e1
      cases e
      obtain ⟨a, rfl, r⟩ := ints_vd hx e1
      exact ⟨a, ns, rfl, sqL_rd r, q _ Z H [] (Ny.flat zx (vw_int T Z H)) fun _ => rfl⟩
    · cases e
  · cases e
def maxI : List Int → Int
  | [] => 0
  | [i] => i
  | i :: l => if maxI l < i then i else maxI l
def minI : List Int → Int
  | [] => 0
  | [i] => i
  | i :: l => if i < minI l then i else minI l
theorem maxI_max : ∀ {l : List Int}, l ≠ [] → maxI l ∈ l ∧ ∀ y ∈ l, y ≤ maxI l
  | [], h => absurd rfl h
  | [i], _ => ⟨by simp [maxI], fun y m => by simp [maxI] at m ⊢; omega⟩
  | i :: j :: l, _ => by
    obtain ⟨a, b⟩ := maxI_max (l := j :: l) (by simp)
    have e : maxI (i :: j :: l) = if maxI (j :: l) < i then i else maxI (j :: l) := rfl
    rw [e]
    split
    · refine ⟨List.mem_cons_self, fun y m => ?_⟩
      rcases List.mem_cons.mp m with rfl | m
      · exact Int.le_refl _
      · have := b y m; omega
    · refine ⟨List.mem_cons_of_mem _ a, fun y m => ?_⟩
      rcases List.mem_cons.mp m with rfl | m
      · omega
      · exact b y m
theorem minI_min : ∀ {l : List Int}, l ≠ [] → minI l ∈ l ∧ ∀ y ∈ l, minI l ≤ y
  | [], h => absurd rfl h
  | [i], _ => ⟨by simp [minI], fun y m => by simp [minI] at m ⊢; omega⟩
  | i :: j :: l, _ => by
    obtain ⟨a, b⟩ := minI_min (l := j :: l) (by simp)
    have e : minI (i :: j :: l) = if i < minI (j :: l) then i else minI (j :: l) := rfl
    rw [e]
    split
    · refine ⟨List.mem_cons_self, fun y m => ?_⟩
      rcases List.mem_cons.mp m with rfl | m
      · exact Int.le_refl _
      · have := b y m; omega
    · refine ⟨List.mem_cons_of_mem _ a, fun y m => ?_⟩
      rcases List.mem_cons.mp m with rfl | m
      · omega
      · exact b y m
def fMax : List OD → Option OD
  | [.pl (.int i), .pl (.int j)] => some (.pl (.int (if j > i then j else i)))
  | [d] => match d.ints with
    | some ns => if ns ≠ [] then some (.pl (.int (maxI ns))) else none
    | none => none
  | _ => none
def fMin : List OD → Option OD
  | [.pl (.int i), .pl (.int j)] => some (.pl (.int (if j < i then j else i)))
  | [d] => match d.ints with
    | some ns => if ns ≠ [] then some (.pl (.int (minI ns))) else none
    | none => none
  | _ => none
theorem call_maxG (hc : X.calm = true) : CallR X (.builtin "max") (fun xs H Q => (∃ i j, xs = [.int i, .int j] ∧ Q (.int (if j > i then j else i)) H) ∨ rMax X.K xs H Q) := CallR.or (call_max2 hc) (cr_max hc)
theorem call_minG (hc : X.calm = true) : CallR X (.builtin "min") (fun xs H Q => (∃ i j, xs = [.int i, .int j] ∧ Q (.int (if j < i then j else i)) H) ∨ rMin X.K xs H Q) := CallR.or (call_min2 hc) (cr_min hc)
theorem c_max : Cal T (fun xs H Q => (∃ i j, xs = [.int i, .int j] ∧ Q (.int (if j > i then j else i)) H) ∨ rMax X.K xs H Q) fMax := fun Z H xs l d B Q zx h nd nz e q => by
  unfold fMax at e
  split at e
  · cases e
    obtain ⟨x, y, B1, B2, rfl, rfl, hx, hy⟩ := h.two2
    exact .inl ⟨_, _, by rw [int_of hx, int_of hy], q _ Z H [] (Ny.flat zx (vw_int T Z H)) fun _ => rfl⟩
  · obtain ⟨x, rfl, hx⟩ := h.one1
    split at e
    · rename_i ns e1
      split at e
      · rename_i c
        cases e
        obtain ⟨a, rfl, r⟩ := ints_vd hx e1
        refine .inr ⟨a, ns, rfl, sqL_rd r, List.length_pos_iff.mpr c, fun m hm hl => ?_⟩
        obtain ⟨g1, g2⟩ := maxI_max c
        have : m = maxI ns := Int.le_antisymm (g2 m hm) (hl _ g1)
        rw [this]
        exact q _ Z H [] (Ny.flat zx (vw_int T Z H)) fun _ => rfl
      · cases e
    · cases e
  · cases e
theorem c_min : Cal T (fun xs H Q => (∃ i j, xs = [.int i, .int j] ∧ Q (.int (if j < i then j else i)) H) ∨ rMin X.K xs H Q) fMin := fun Z H xs l d B Q zx h nd nz e q => by
  unfold fMin at e
  split at e
  · cases e
    obtain ⟨x, y, B1, B2, rfl, rfl, hx, hy⟩ := h.two2
    exact .inl ⟨_, _, by rw [int_of hx, int_of hy], q _ Z H [] (Ny.flat zx (vw_int T Z H)) fun _ => rfl⟩
  · obtain ⟨x, rfl, hx⟩ := h.one1
    split at e
    · rename_i ns e1
      split at e
      · rename_i c
        cases e
        obtain ⟨a, rfl, r⟩ := ints_vd hx e1
        refine .inr ⟨a, ns, rfl, sqL_rd r, List.length_pos_iff.mpr c, fun m hm hl => ?_⟩
        obtain ⟨g1, g2⟩ := minI_min c
        have : m = minI ns := Int.le_antisymm (hl _ g1) (g2 m hm)
        rw [this]
        exact q _ Z H [] (Ny.flat zx (vw_int T Z H)) fun _ => rfl
      · cases e
    · cases e
  · cases e
/-- str of a number -/
def fStr : List OD → Option OD
  | [.pl (.int i)] => if i.natAbs.log2 < 1920 then some (.pl (.str (toString i))) else none
  | _ => none
theorem c_str : Cal T (fun xs H Q => ∃ i, xs = [.int i] ∧ i.natAbs.log2 < 1920 ∧ Q (.str (toString i)) H) fStr := fun Z H xs l d B Q zx h nd nz e q => by
  unfold fStr at e
  split at e
  · split at e
    · rename_i c
      cases e
      obtain ⟨x, rfl, hx⟩ := h.one1
      exact ⟨_, by rw [int_of hx], c, q _ Z H [] (Ny.flat zx (vw_str T Z H)) fun _ => rfl⟩
    · cases e
  · cases e

/-! ### list(range(..)) -/
def vLRg (s : En → Option (List OD)) : VM := fun ρ => match s ρ with
  | some l => some (.ol l)
  | none => none
theorem rgV_eq (lo : Int) (n : Nat) : VwL T Z H (rngP lo n) ((List.range n).map fun i => V.int (lo + (i : Nat))) := by
  induction n generalizing lo with
  | zero => simp [rngP, VwL]
  | succ n ih =>
    simp only [rngP, List.range_succ_eq_map, List.map_cons, VwL, Vw]
    refine ⟨_, _, rfl, by simp, ?_⟩
    have := ih (lo + 1)
    rw [List.map_map]
    have e : (List.map ((fun i : Nat => V.int (lo + (i : Int))) ∘ Nat.succ) (List.range n)) = (List.range n).map fun i : Nat => V.int (lo + 1 + (i : Int)) := by
      apply List.map_congr_left
      intro i _
      show V.int (lo + ((i + 1 : Nat) : Int)) = _
      congr 1
      omega
    rw [e]
    exact this
theorem rg_ok {i j : Int} (h : rOk i = true) (h' : rOk j = true) (c : decide (j - i ≤ 16777216) = true) : RgOk i j := by
  have a := rOk_iff h
  have b := rOk_iff h'
  simp only [decide_eq_true_eq] at c
  exact ⟨a.1, a.2, b.1, b.2, by omega⟩
theorem pv_lr1 {e : Expr} {m : VM} {p p2 pos pos2 : Pos} (hc : X.calm = true) (he : PE X e (tV T m)) (hg : Gl X "list") (hm : X.mg "list" = none) (hg2 : Gl X "range") (hm2 : X.mg "range" = none) (na : starEach [e] X.env = (false, eval e X.env) :: starEach [] X.env := by rfl)
    (na2 : starEach [.Call (.Name "range" p2) [e] [] pos2] X.env = (false, eval (.Call (.Name "range" p2) [e] [] pos2) X.env) :: starEach [] X.env := by rfl) : PE X (.Call (.Name "list" p) [.Call (.Name "range" p2) [e] [] pos2] [] pos) (tV T (vLRg (sR1 m))) :=
  pe_imp (pe_listRg hc hg hm (prg_1 hg2 hm2 he na) na2) fun σ H Q q => by
    obtain ⟨Z, F, ρ, d, E, e1, q⟩ := q
    unfold vLRg sR1 at e1
    split at e1
    · rename_i l e2
      split at e2
      · rename_i j e3
        split at e2
        · rename_i c
          cases e2
          cases e1
          refine ⟨Z, F, ρ, _, E, e3, fun v Z1 H1 B1 n => ⟨j, int_of n.vd, ?_, fun p hp => ?_⟩⟩
          · have hj := c
            unfold rOk at hj
            simp only [Bool.and_eq_true, decide_eq_true_eq] at hj
            refine ⟨by decide, by decide, ?_, ?_, ?_⟩ <;> omega
          · have n1 := n.tr (Ny.lst n.zx n.vd.foot (ps := rngP 0 j.toNat) (xs := rgV 0 j) (by have := rgV_eq (T := T) (Z := fun a => Z1 a ∨ a ∈ B1) (H := H1) 0 j.toNat; unfold rgV; rw [Int.sub_zero]; exact this) hp)
            exact q _ _ _ _ n1
        · cases e2
      · cases e2
    · cases e1
theorem pv_lr2 {e e' : Expr} {m m' : VM} {p p2 pos pos2 : Pos} (hc : X.calm = true) (he : PE X e (tV T m)) (he' : PE X e' (tV T m')) (hg : Gl X "list") (hm : X.mg "list" = none) (hg2 : Gl X "range") (hm2 : X.mg "range" = none) (na : starEach [e, e'] X.env = (false, eval e X.env) :: starEach [e'] X.env := by rfl) (nb : starEach [e'] X.env = (false, eval e' X.env) :: starEach [] X.env := by rfl) (np : (backTo pos2 (starEach [e'] X.env)).any (·.1) = false := by rfl)
    (na2 : starEach [.Call (.Name "range" p2) [e, e'] [] pos2] X.env = (false, eval (.Call (.Name "range" p2) [e, e'] [] pos2) X.env) :: starEach [] X.env := by rfl) : PE X (.Call (.Name "list" p) [.Call (.Name "range" p2) [e, e'] [] pos2] [] pos) (tV T (vLRg (sR2 m m'))) :=
  pe_imp (pe_listRg hc hg hm (prg_2 hg2 hm2 he he' na nb np) na2) fun σ H Q q => by
    obtain ⟨Z, F, ρ, d, E, e1, q⟩ := q
    unfold vLRg sR2 at e1
    split at e1
    · rename_i l e2
      split at e2
      · rename_i i j e3 e4
        split at e2
        · rename_i c
          cases e2
          cases e1
          refine ⟨Z, F, ρ, _, E, e3, fun v Z1 H1 B1 n => ⟨Z1, F, ρ, _, n.ev E (fun _ m => (nomatch m)), e4, fun v2 Z2 H2 B2 n2 => ?_⟩⟩
          refine ⟨i, j, int_of n.vd, int_of n2.vd, rg_ok c.1 c.2.1 c.2.2, fun p hp => ?_⟩
          obtain ⟨h1, h2, h3, h4⟩ := two_V n n2
          exact q _ _ _ _ (h4 (Ny.lst n2.zx (foot2 h1 n2.vd) (ps := rngP i (j - i).toNat) (xs := rgV i j) (rgV_eq i _) hp))
        · cases e2
      · cases e2
    · cases e1

/-! ### isinstance -/
def PD.ty : PD → Option String
  | .non => some "NoneType"
  | .bl _ => some "bool"
  | .int _ => some "int"
  | .str _ => some "str"
  | .lst _ => some "list"
  | .tup _ => some "tuple"
  | _ => none
def isB (t c : String) : Bool := t == c || (t == "bool" && c == "int")
def vIsi (cs : List String) (m : VM) : VM := fun ρ => match m ρ with
  | some d => (match d.toP.ty with
    | some t => some (.pl (.bl (cs.any (isB t))))
    | none => none)
  | none => none
theorem ty_vw {p : PD} {t : String} {K : PySem.W.Frag} (h : Vw T Z H p v) (e : p.ty = some t) : TyX K H v (.type t) := by
  cases p with
  | non => simp only [PD.ty, Option.some.injEq] at e; subst e; simp only [Vw] at h; subst h; exact .base .non
  | bl b => simp only [PD.ty, Option.some.injEq] at e; subst e; simp only [Vw] at h; subst h; exact .base (.bl _)
  | int b => simp only [PD.ty, Option.some.injEq] at e; subst e; simp only [Vw] at h; subst h; exact .base (.int _)
  | str b => simp only [PD.ty, Option.some.injEq] at e; subst e; simp only [Vw] at h; subst h; exact .base (.str _)
  | lst l =>
    simp only [PD.ty, Option.some.injEq] at e
    subst e
    simp only [Vw] at h
    obtain ⟨a, xs, rfl, r, _⟩ := h
    rcases r with r | ⟨o, r⟩
    · exact .base (.lst r)
    · exact .base (.frz r)
  | tup l =>
    simp only [PD.ty, Option.some.injEq] at e
    subst e
    simp only [Vw] at h
    obtain ⟨a, xs, rfl, r, _⟩ := h
    rcases r with r | ⟨o, r⟩
    · exact .base (.tup r)
    · exact .fTuple r
  | _ => simp [PD.ty] at e
theorem kit_all : ∀ t ∈ ["NoneType", "bool", "int", "str", "list", "tuple"], ∀ c ∈ ["bool", "int", "str", "list", "tuple"], kitB t c = some (isB t c) := by decide +kernel
theorem ty_in {p : PD} {t : String} (e : p.ty = some t) : t ∈ ["NoneType", "bool", "int", "str", "list", "tuple"] := by
  cases p <;> simp [PD.ty] at e <;> subst e <;> decide
theorem pv_isi {e : Expr} {m : VM} {c : String} {cn : Str} {p p2 pos : Pos} (he : PE X e (tV T m)) (hg : Gl X "isinstance") (hm : X.mg "isinstance" = none) (hgc : Gl X cn) (hmc : X.mg cn = none) (hvc : bootBuiltins cn = some (.type c)) (hc : c ∈ ["bool", "int", "str", "list", "tuple"]) (hnc : cn ≠ "__name__" := by decide) (hdc : (cn == ("__debug__" : Str)) = false := by decide)
    (h1 : starEach [e, .Name cn p2] X.env = (false, eval e X.env) :: starEach [.Name cn p2] X.env := by rfl) (h2 : starEach [.Name cn p2] X.env = (false, eval (.Name cn p2) X.env) :: starEach [] X.env := by rfl) (hpl : (backTo pos (starEach [.Name cn p2] X.env)).any (·.1) = false := by rfl) :
    PE X (.Call (.Name "isinstance" p) [e, .Name cn p2] [] pos) (tV T (vIsi [c] m)) :=
  pe_imp (pe_callB call_isi hg hm (by decide +kernel) (pa_cons he (pa_cons (pe_bltn (v := .ty c) hgc hmc hvc (by rfl) hnc hdc) pa_nil h2) h1) (by decide) (by decide) h1 hpl) fun σ H Q q => by
    obtain ⟨Z, F, ρ, d, E, e1, q⟩ := q
    unfold vIsi at e1
    split at e1
    · rename_i d0 em
      split at e1
      · rename_i t et
        cases e1
        refine ⟨Z, F, ρ, d0, E, em, fun v Z1 H1 B1 n => ?_⟩
        refine ⟨v, .ty c, .type t, .type c, isB t c, rfl, .ty c, ty_vw n.vd.all et, kit_ty (kit_all t (ty_in et) c hc), ?_⟩
        have e3 : ([c] : List String).any (isB t) = isB t c := by simp
        rw [e3] at q
        exact q _ Z1 H1 [] (n.tr (Ny.flat n.zx (vw_bl T Z1 H1)))
      · cases e1
    · cases e1
theorem pv_isi2 {e : Expr} {m : VM} {c c' : String} {cn cn' : Str} {p p2 p3 pt pos : Pos} {k : Nat} (he : PE X e (tV T m)) (hg : Gl X "isinstance") (hm : X.mg "isinstance" = none) (hgc : Gl X cn) (hmc : X.mg cn = none) (hvc : bootBuiltins cn = some (.type c)) (hc : c ∈ ["bool", "int", "str", "list", "tuple"]) (hgc' : Gl X cn') (hmc' : X.mg cn' = none) (hvc' : bootBuiltins cn' = some (.type c')) (hc' : c' ∈ ["bool", "int", "str", "list", "tuple"])
    (hnc : cn ≠ "__name__" := by decide) (hdc : (cn == ("__debug__" : Str)) = false := by decide) (hnc' : cn' ≠ "__name__" := by decide) (hdc' : (cn' == ("__debug__" : Str)) = false := by decide)
    (h1 : starEach [e, .Tuple [.Name cn p2, .Name cn' p3] k pt] X.env = (false, eval e X.env) :: starEach [.Tuple [.Name cn p2, .Name cn' p3] k pt] X.env := by rfl) (h2 : starEach [.Tuple [.Name cn p2, .Name cn' p3] k pt] X.env = (false, eval (.Tuple [.Name cn p2, .Name cn' p3] k pt) X.env) :: starEach [] X.env := by rfl) (hpl : (backTo pos (starEach [.Tuple [.Name cn p2, .Name cn' p3] k pt] X.env)).any (·.1) = false := by rfl)
    (h3 : starEach [.Name cn p2, .Name cn' p3] X.env = (false, eval (.Name cn p2) X.env) :: starEach [.Name cn' p3] X.env := by rfl) (h4 : starEach [.Name cn' p3] X.env = (false, eval (.Name cn' p3) X.env) :: starEach [] X.env := by rfl) :
    PE X (.Call (.Name "isinstance" p) [e, .Tuple [.Name cn p2, .Name cn' p3] k pt] [] pos) (tV T (vIsi [c, c'] m)) :=
  pe_imp (pe_callB call_isiT hg hm (by decide +kernel) (pa_cons he (pa_cons (pe_tup (pa_cons (pe_bltn (v := .ty c) hgc hmc hvc (by rfl) hnc hdc) (pa_cons (pe_bltn (v := .ty c') hgc' hmc' hvc' (by rfl) hnc' hdc') pa_nil h4) h3)) pa_nil h2) h1) (by decide) (by decide) h1 hpl) fun σ H Q q => by
    obtain ⟨Z, F, ρ, d, E, e1, q⟩ := q
    unfold vIsi at e1
    split at e1
    · rename_i d0 em
      split at e1
      · rename_i t et
        cases e1
        refine ⟨Z, F, ρ, d0, E, em, fun v Z1 H1 B1 n => ⟨by show 2 ≤ sizeLine; rw [sizeLine_eq]; decide, fun tp htp => ?_⟩⟩
        have sm : Same H1 (upd H1 tp (.tup [.ty c, .ty c'])) := fun b o e => by rw [upd_ne (ne_of_none e htp)]; exact e
        have hv := Vd.same (fun _ z => z) sm n.vd
        have zx : Zx Z1 (upd H1 tp (.tup [.ty c, .ty c'])) := fun a z => let ⟨o, e⟩ := n.zx a z; ⟨o, sm _ _ e⟩
        have k1 := kit_ty (K := X.K) (kit_all t (ty_in et) c hc)
        have k2 := kit_ty (K := X.K) (kit_all t (ty_in et) c' hc')
        refine ⟨v, tp, [.ty c, .ty c'], .type t, [.type c, .type c'], ([c, c'] : List String).any (isB t), rfl, upd_same, .cons (.ty c) (.cons (.ty c') .nil), ty_vw hv.all et, kitAny_cons k1 (fun e => kitAny_cons k2 (fun e' => ?_) fun e' => ?_) fun e => ?_, ?_⟩
        · rw [kitAny_nil]; simp [e, e']
        · simp [e']
        · simp [e]
        · have n1 : Ny T Z H [] Z1 (upd H1 tp (.tup [.ty c, .ty c'])) (.pl (.bl (([c, c'] : List String).any (isB t)))) (.bl (([c, c'] : List String).any (isB t))) [] :=
            n.tr ⟨sm, fun _ z => z, fun _ z => .inl z, fun _ m => (nomatch m), List.nodup_nil, fun _ m => (nomatch m), by simp only [Vd]; exact ⟨trivial, vw_bl T _ _⟩, zx⟩
          exact q _ Z1 _ [] n1
      · cases e1
    · cases e1

/-! ### methods that only read -/
def vBits (m : VM) : VM := v1 (fun d => match d with
  | .pl (.int i) => some (.pl (.int (Builtin.Int.intBits i : Nat)))
  | _ => none) m
theorem pv_bits {e : Expr} {m : VM} {apos pos : Pos} (he : PE X e (tV T m)) (hbase : attributeBase e "bit_length" X.env (eval e X.env) = eval e X.env := by rfl) (hline : (apos.endLine == pos.line) = true := by rfl) : PE X (.Call (.Attribute e "bit_length" apos) [] [] pos) (tV T (vBits m)) :=
  pe_imp (pe_bits he hbase hline) fun σ H Q q => by
    obtain ⟨Z, F, ρ, d, E, e1, q⟩ := q
    unfold vBits v1 at e1
    cases em : m ρ with
    | none => rw [em] at e1; cases e1
    | some d0 =>
      rw [em] at e1
      simp only [Option.bind_some] at e1
      split at e1
      · rename_i i
        cases e1
        exact ⟨Z, F, ρ, _, E, em, fun v Z1 H1 B1 n => ⟨i, int_of n.vd, q _ Z1 H1 [] (n.tr (Ny.flat n.zx (vw_int T Z1 H1)))⟩⟩
      · cases e1
/-- l.index(x): the first place of an equal one -/
def idxP (p : PD) : List PD → Option Nat
  | [] => none
  | q :: l => if eqP q p = true then some 0 else (match idxP p l with
    | some n => some (n + 1)
    | none => none)
def fIndex (x y : OD) : Option OD := match x.toP with
  | .lst l => if (PD.lst l).okE = true ∧ y.toP.okE = true then (match idxP y.toP l with
    | some n => some (.pl (.int n))
    | none => none) else none
  | _ => none
theorem idxP_py {p : PD} (hp : p.lay = true) : ∀ {l : List PD} {n : Nat}, layL l = true → idxP p l = some n → ∃ z, (pyL l)[n]? = some z ∧ PyData.eqv z p.py = true ∧ ∀ (m : Nat) z', m < n → (pyL l)[m]? = some z' → PyData.eqv z' p.py = false
  | [], n, h, e => by cases e
  | q :: l, n, h, e => by
    simp only [layL, Bool.and_eq_true] at h
    unfold idxP at e
    split at e
    · rename_i c
      cases e
      exact ⟨q.py, by simp [pyL], by rw [← eqP_py h.1 hp]; exact c, fun m z' hm => by omega⟩
    · rename_i c
      split at e
      · rename_i k ek
        cases e
        obtain ⟨z, e1, e2, e3⟩ := idxP_py hp h.2 ek
        refine ⟨z, by simpa [pyL] using e1, e2, fun m z' hm hz => ?_⟩
        cases m with
        | zero =>
          simp [pyL] at hz
          subst hz
          rw [← eqP_py h.1 hp]
          simpa using c
        | succ m => exact e3 m z' (by omega) (by simpa [pyL] using hz)
      · cases e
theorem pv_index {a b : Expr} {ma mb : VM} {apos pos : Pos} (hu : X.A.units + 65 < cLine) (ha : PE X a (tV T ma)) (hb : PE X b (tV T mb)) (hs : starEach [b] X.env = (false, eval b X.env) :: starEach [] X.env := by rfl) (hbase : attributeBase a "index" X.env (eval a X.env) = eval a X.env := by rfl)
    (hfew : ((backTo pos (starEach (b :: []) X.env)).all (fun x => !x.1) && (backToKw pos (keywordEach [] X.env)).all (fun x => x.1.isSome) && decide ((b :: []).length + ([] : List Keyword).length + (if ([] : List Keyword).isEmpty then 0 else 1) < 30)) = true := by rfl) (hline : (apos.endLine == pos.line) = true := by rfl) (hpl : (backTo pos (starEach [] X.env)).any (·.1) = false := by rfl) :
    PE X (.Call (.Attribute a "index" apos) [b] [] pos) (tV T (v2 fIndex ma mb)) :=
  pe_imp (pe_bm PySem.F.plainAttrs_list PySem.F.slot_list_index PySem.F.type_list_index (mt_indexD hu) ha (pa_cons hb pa_nil hs) hbase hfew hline hs hpl) fun σ H Q q => by
    obtain ⟨Z, F, ρ, d, E, e1, q⟩ := q
    obtain ⟨x, y, ea, eb, ef⟩ := v2_some e1
    refine ⟨Z, F, ρ, x, E, ea, fun v1 Z1 H1 B1 n => ?_⟩
    unfold fIndex at ef
    split at ef
    · rename_i l el
      split at ef
      · rename_i c
        split at ef
        · rename_i k ek
          cases ef
          have w := n.vd.all
          rw [el] at w
          have w' := w
          simp only [Vw] at w'
          obtain ⟨a', xs, rfl, r, _, _⟩ := w'
          refine ⟨Or.inl ⟨rfl, xs, sqL_rd r⟩, Z1, F, ρ, y, n.ev E (fun _ m => (nomatch m)), eb, fun v2 Z2 H2 B2 n2 => ?_⟩
          have lay1 : layL l = true := by have := okE_lay c.1; simpa only [PD.lay] using this
          obtain ⟨z, g1, g2, g3⟩ := idxP_py (okE_lay c.2) lay1 ek
          have w2 := Vw.mono (Same.kp n2.same _) (fun _ z => z) w
          refine ⟨a', v2, y.toP.py, pyL l, k, z, rfl, rfl, by have := w2.dp (K := X.K) (okE_lay c.1); simpa only [PD.py] using this, n2.vd.all.dp (okE_lay c.2), by have := okE_shaped c.1; simpa only [PD.py] using this, okE_shaped c.2, g1, g2, g3, ?_⟩
          obtain ⟨h1, h2, h3, h4⟩ := two_V n n2
          exact q _ Z2 H2 [] (h4 (Ny.flat n2.zx (vw_int T Z2 H2)))
        · cases ef
      · cases ef
    · cases ef
end
end Rq
end

section
set_option Elab.async false
set_option linter.all false
set_option maxRecDepth 100000
set_option maxHeartbeats 1000000
namespace Rq
open PySem PySem.Spec PyProof.Rows L2

section
variable {X : Cx} {T : Tb} {W : WX} {ln : List Nat} {Z Z1 : Addr → Prop} {H H1 : Hp} {F F1 : Nat → List Addr} {σ σ1 : L2.St} {ρ ρ1 : En} {v : V} {B B0 : List Addr} {d : OD} {ps : List PD} {xs : List V}
/-! ## displays whose items may write -/
def eLst (as : List Ag) : EM := fun ρ => match evA as ρ with
  | .ok l ρ1 => if l.length ≤ 1000 then .ok (.ol l) ρ1 else .st
  | .ex k p ρ1 => .ex k p ρ1
  | .st => .st
def eTup (as : List Ag) : EM := fun ρ => match evA as ρ with
  | .ok l ρ1 => if l.length ≤ 1000 then .ok (mkT l) ρ1 else .st
  | .ex k p ρ1 => .ex k p ρ1
  | .st => .st
theorem Nx.lay {p : Addr} {o : HO} (n : Nx T Z H F Z1 H1 ρ1 σ1 F1 B) (na : ∀ a ∈ B, ∃ xs, H1 a = some (.lst xs)) (hp : H1 p = none) : Nx T Z H F Z1 (upd H1 p o) ρ1 σ1 F1 B := by
  have sm : Same H1 (upd H1 p o) := fun b u e => by rw [upd_ne (ne_of_none e hp)]; exact e
  have zx : Zx Z1 (upd H1 p o) := fun a z => let ⟨u, e⟩ := n.ev.zx a z; ⟨u, sm _ _ e⟩
  exact ⟨fun a u e c => sm _ _ (n.keep a u e c), fun a e => n.dom a (sm.free e), n.up, n.dn, n.own, n.ev.same sm (fun _ z => z) (fun _ z => .inl z) zx, n.na, n.nd, n.nz, n.dj⟩
theorem pe_lstE {es : List Expr} {as : List Ag} {pos : Pos} (h : PA X es (tAE T W as)) : PE X (.List es pos) (tE T W (eLst as)) := pe_imp (pe_lst h) fun σ H Q q => by
  obtain ⟨Z, F, ρ, E, na, q⟩ := of_tE q
  refine ⟨Z, F, ρ, E, na, ?_⟩
  unfold eLst at q
  cases ea : evA as ρ with
  | st => rw [ea] at q; exact q
  | ex k p ρ1 => rw [ea] at q; exact q
  | ok l ρ1 =>
    rw [ea] at q
    intro xs Z1 H1 F1 B1 n hl nl le
    dsimp only at q
    split at q
    · rename_i c
      refine ⟨by rw [hl.len]; exact small_disp c, fun p hp => ?_⟩
      have n' := n.lay (o := .lst xs) hl.foot hp
      have sm : Same H1 (upd H1 p (.lst xs)) := fun b u e => by rw [upd_ne (ne_of_none e hp)]; exact e
      have np : p ∉ B1 := fun m => by
        obtain ⟨ys, e⟩ := hl.foot p m
        rw [hp] at e; cases e
      refine q (.ref p) Z1 _ F1 (p :: B1) ⟨n'.keep, n'.dom, n'.up, n'.dn, fun a m => ?_, n'.ev, n'.na, List.nodup_cons.mpr ⟨np, n'.nd⟩, fun a m => ?_, fun a m i => ?_⟩ ?_ nl
      · rcases m with m | m
        · rcases List.mem_cons.mp m with rfl | m
          · exact .inr (n.dom _ hp)
          · exact n'.own a (.inl m)
        · exact n'.own a (.inr m)
      · rcases List.mem_cons.mp m with rfl | m
        · intro z
          obtain ⟨u, e⟩ := n.ev.zx _ z
          rw [hp] at e; cases e
        · exact n'.nz a m
      · rcases List.mem_cons.mp m with rfl | m
        · intro f
          obtain ⟨ys, e⟩ := n.ev.foot f
          rw [hp] at e; cases e
        · exact n'.dj a m i
      · simp only [Vd]
        exact ⟨p, xs, B1, rfl, rfl, upd_same, VdL.same (fun _ z => z) sm hl⟩
    · exact q.elim
theorem pe_tupE {es : List Expr} {as : List Ag} {x1 : Nat} {pos : Pos} (h : PA X es (tAE T W as)) : PE X (.Tuple es x1 pos) (tE T W (eTup as)) := pe_imp (pe_tup h) fun σ H Q q => by
  obtain ⟨Z, F, ρ, E, na, q⟩ := of_tE q
  refine ⟨Z, F, ρ, E, na, ?_⟩
  unfold eTup at q
  cases ea : evA as ρ with
  | st => rw [ea] at q; exact q
  | ex k p ρ1 => rw [ea] at q; exact q
  | ok l ρ1 =>
    rw [ea] at q
    intro xs Z1 H1 F1 B1 n hl nl le
    dsimp only at q
    split at q
    · rename_i c
      refine ⟨by rw [hl.len]; exact small_disp c, fun p hp => ?_⟩
      have n' := n.lay (o := .tup xs) hl.foot hp
      have sm : Same H1 (upd H1 p (.tup xs)) := fun b u e => by rw [upd_ne (ne_of_none e hp)]; exact e
      exact q (.ref p) Z1 _ F1 B1 n' (mkT_vd (VdL.same (fun _ z => z) sm hl) (Rd.of upd_same)) (mkT_noAl nl)
    · exact q.elim

/-! ## a list that a name holds is written -/
theorem Nx.write {i : Nat} {a : Addr} {xs ys : List V} {d' : OD} {vi : V} {G B2 : List Addr} (n : Nx T Z H F Z1 H1 ρ1 σ1 F1 B) (fo : ∀ b ∈ B, ∃ zs, H1 b = some (.lst zs)) (ha : a ∈ F1 i) (hx : H1 a = some (.lst xs)) (hs : σ1[i]? = some (some vi)) (hi : i < ρ1.length)
    (hd : Vd T Z1 (upd H1 a (.lst ys)) d' vi G) (nd' : d'.noAl = true) (gs : ∀ b ∈ G, b ∈ F1 i ∨ b ∈ B) (bs : ∀ b ∈ B2, b ∈ F1 i ∨ b ∈ B) (nd : (G ++ B2).Nodup) :
    ∃ F2, Nx T Z H F Z1 (upd H1 a (.lst ys)) (ρ1.set i (some d')) σ1 F2 B2 := by
  have nza : ¬ Z1 a := n.ev.nz i a ha
  have nn := List.nodup_append.mp nd
  have up2 : ∀ b o, H1 b = some o → b ≠ a → (upd H1 a (.lst ys)) b = some o := fun b o e ne => by rw [upd_ne ne]; exact e
  have dom2 : ∀ b, (upd H1 a (.lst ys)) b = none → H1 b = none := fun b e => by
    by_cases c : b = a
    · subst c; rw [upd_same] at e; cases e
    · rw [upd_ne c] at e; exact e
  have notO : ∀ b, b ∈ F1 i ∨ b ∈ B → ∀ j, j ≠ i → b ∉ F1 j := fun b h j hj m => h.elim (fun h => hj (n.ev.dj j i b m h)) fun h => n.dj b h j m
  have nzG : ∀ b, b ∈ F1 i ∨ b ∈ B → ¬ Z1 b := fun b h => h.elim (n.ev.nz i b) (n.nz b)
  have zx : Zx Z1 (upd H1 a (.lst ys)) := fun b z => let ⟨o, e⟩ := n.ev.zx b z; ⟨o, up2 _ _ e (by intro q; subst q; exact nza z)⟩
  refine ⟨updF F1 i G, fun b o e c => up2 b o (n.keep b o e c) (fun q => ?_), fun b e => n.dom b (dom2 b e), n.up, n.dn, fun b m => ?_, ⟨fun j d2 e => ?_, fun j b m => ?_, fun j => ?_, fun j k b m1 m2 => ?_, fun j b m => ?_, by simp [n.ev.ln], zx⟩, n.na.set nd', nn.2.1, fun b m => nzG b (bs b m), fun b m j => ?_⟩
  · subst q
    rcases n.own b (.inr ⟨i, ha⟩) with ⟨j, z⟩ | z
    · exact c j z
    · rw [e] at z; cases z
  · have : b ∈ F1 i ∨ b ∈ B ∨ ∃ j, b ∈ F1 j := by
      rcases m with m | ⟨j, m⟩
      · exact (bs b m).imp_right .inl
      · unfold updF at m
        by_cases c : j = i
        · rw [if_pos c] at m; exact (gs b m).imp_right .inl
        · rw [if_neg c] at m; exact .inr (.inr ⟨j, m⟩)
    rcases this with m | m | ⟨j, m⟩
    · exact n.own b (.inr ⟨i, m⟩)
    · exact n.own b (.inl m)
    · exact n.own b (.inr ⟨j, m⟩)
  · by_cases c : j = i
    · subst c
      rw [List.getElem?_set_self hi] at e
      cases e
      refine ⟨vi, hs, ?_⟩
      unfold updF; rw [if_pos rfl]; exact hd
    · rw [List.getElem?_set_ne (Ne.symm c)] at e
      obtain ⟨v', e1, q⟩ := n.ev.at_ j d2 e
      refine ⟨v', e1, ?_⟩
      unfold updF; rw [if_neg c]
      refine Vd.mono (B := []) (fun _ z => z) (n.na j d2 e) (fun b o e2 w => up2 b o e2 (fun qq => ?_)) q
      subst qq
      rcases w with w | w | w
      · exact nza w
      · exact c (n.ev.dj j i b w ha)
      · rw [hx] at e2; cases e2; exact w
  · unfold updF at m
    by_cases c : j = i
    · subst c; exact ⟨d', List.getElem?_set_self hi⟩
    · rw [if_neg c] at m
      obtain ⟨d2, e⟩ := n.ev.no j b m
      exact ⟨d2, by rw [List.getElem?_set_ne (Ne.symm c)]; exact e⟩
  · unfold updF
    by_cases c : j = i
    · rw [if_pos c]; exact nn.1
    · rw [if_neg c]; exact n.ev.nd j
  · unfold updF at m1 m2
    by_cases c : j = i
    · by_cases c' : k = i
      · rw [c, c']
      · rw [if_pos c] at m1; rw [if_neg c'] at m2
        exact absurd m2 (notO b (gs b m1) k c')
    · by_cases c' : k = i
      · rw [if_neg c] at m1; rw [if_pos c'] at m2
        exact absurd m1 (notO b (gs b m2) j c)
      · rw [if_neg c] at m1; rw [if_neg c'] at m2
        exact n.ev.dj j k b m1 m2
  · unfold updF at m
    by_cases c : j = i
    · rw [if_pos c] at m; exact nzG b (gs b m)
    · rw [if_neg c] at m; exact n.ev.nz j b m
  · intro mj
    unfold updF at mj
    by_cases c : j = i
    · rw [if_pos c] at mj
      exact absurd rfl (nn.2.2 b mj b m)
    · rw [if_neg c] at mj
      exact notO b (bs b m) j c mj
theorem own_at {i : Nat} {l : List OD} (E : Ev T Z H ρ σ F) (e : ρ[i]? = some (some (.ol l))) : ∃ a xs B', σ[i]? = some (some (.ref a)) ∧ F i = a :: B' ∧ H a = some (.lst xs) ∧ VdL T Z H l xs B' ∧ i < ρ.length := by
  obtain ⟨v, e1, q⟩ := E.at_ i _ e
  simp only [Vd] at q
  obtain ⟨a, xs, B', rfl, eb, hx, hl⟩ := q
  exact ⟨a, xs, B', e1, eb, hx, hl, (List.getElem?_eq_some_iff.mp e).1⟩
theorem VdL.monoU {l : List OD} {G : List Addr} {a : Addr} {ys zs : List V} (n : noAlL l = true) (h : VdL T Z H l xs G) (hx : H a = some (.lst zs)) (na : ¬ Z a) (ng : a ∉ G) : VdL T Z (upd H a (.lst ys)) l xs G := by
  refine VdL.mono (B := []) (fun _ z => z) n (fun b o e w => ?_) h
  rw [upd_ne]
  · exact e
  · intro q
    subst q
    rcases w with w | w | w
    · exact na w
    · exact ng w
    · rw [hx] at e; cases e; exact w
theorem Vd.monoU {G : List Addr} {a : Addr} {ys zs : List V} (n : d.noAl = true) (h : Vd T Z H d v G) (hx : H a = some (.lst zs)) (na : ¬ Z a) (ng : a ∉ G) : Vd T Z (upd H a (.lst ys)) d v G := by
  refine Vd.mono (B := []) (fun _ z => z) n (fun b o e w => ?_) h
  rw [upd_ne]
  · exact e
  · intro q
    subst q
    rcases w with w | w | w
    · exact na w
    · exact ng w
    · rw [hx] at e; cases e; exact w
/-! append -/
def bApp (i : Nat) (m : EM) : SM := fun ρ => match ρ[i]? with
  | some (some (.ol _)) => (match m ρ with
    | .ok d ρ1 => (match ρ1[i]? with
      | some (some (.ol l)) => if l.length < 16777216 then .nx (ρ1.set i (some (.ol (l ++ [d])))) else .st
      | _ => .st)
    | .ex k p ρ1 => .ex k p ρ1
    | .st => .st)
  | _ => .st
theorem tail_mem {a b : Addr} {B' : List Addr} {i : Nat} {F : Nat → List Addr} (e : F i = a :: B') (h : b ∈ B') : b ∈ F i := by rw [e]; exact List.mem_cons_of_mem _ h
theorem fs_app {i : Nat} {o e : Expr} {m : EM} {apos cpos pos : Pos} (ho : PE X o (tVar i)) (he : PE X e (tE T W m)) (hbase : attributeBase o "append" X.env (eval o X.env) = eval o X.env := by rfl) (hfew : ((backTo cpos (starEach (e :: []) X.env)).all (fun x => !x.1) && (backToKw cpos (keywordEach [] X.env)).all (fun x => x.1.isSome) && decide ((e :: []).length + ([] : List Keyword).length + (if ([] : List Keyword).isEmpty then 0 else 1) < 30)) = true := by rfl) (hline : (apos.endLine == cpos.line) = true := by rfl)
    (hs : starEach [e] X.env = (false, eval e X.env) :: starEach [] X.env := by rfl) (hpl : (backTo cpos (starEach [] X.env)).any (·.1) = false := by rfl) (hsw : swapsWith (.Call (.Attribute o "append" apos) [e] [] cpos) none pos.line X.env = pure false := by rfl) :
    PS X (.Expr (.Call (.Attribute o "append" apos) [e] [] cpos) pos) (tS T W ln (bApp i m)) :=
  ps_imp (ps_expr (pe_bm PySem.F.plainAttrs_list PySem.F.slot_list_append PySem.F.type_list_append mt_append ho (pa_cons he pa_nil hs) hbase hfew hline hs hpl) hsw) fun D σ H h => by
    obtain ⟨Z, F, ρ, E, na, q⟩ := of_tS h
    unfold bApp at q
    split at q
    · rename_i l0 e0
      obtain ⟨a0, xs0, B0', es0, eF0, hx0, hl0, hi0⟩ := own_at E e0
      refine ⟨.ref a0, es0, Or.inl ⟨rfl, xs0, sqL_rd (Rd.of hx0)⟩, tE_of E na ?_⟩
      cases e1 : m ρ with
      | st => rw [e1] at q; exact q
      | ex k p ρ1 =>
        rw [e1] at q
        intro c dd Z' H' F' n hx
        exact q σ c dd Z' H' F' n hx .refl
      | ok d ρ1 =>
        rw [e1] at q
        intro v Z1 H1 F1 B1 n hv nd
        dsimp only at q
        split at q
        · rename_i l e2
          split at q
          · rename_i c
            obtain ⟨a, xs, B', es, eF, hx, hl, hi⟩ := own_at n.ev e2
            rw [es0] at es
            cases es
            have nl : noAlL l = true := n.na i _ e2
            have ndF : (a0 :: B').Nodup := eF ▸ n.ev.nd i
            have ha : a0 ∈ F1 i := by rw [eF]; exact List.mem_cons_self
            have nza := n.ev.nz i a0 ha
            have naB : a0 ∉ B1 := fun mb => n.dj a0 mb i ha
            have naB' : a0 ∉ B' := (List.nodup_cons.mp ndF).1
            refine ⟨a0, xs, v, rfl, rfl, hx, by rw [hl.len, sizeLine_eq]; exact c, ?_⟩
            have hd : Vd T Z1 (upd H1 a0 (.lst (xs ++ [v]))) (.ol (l ++ [d])) (.ref a0) (a0 :: (B' ++ B1)) := by
              simp only [Vd]
              exact ⟨a0, xs ++ [v], B' ++ B1, rfl, rfl, upd_same, VdL.app (VdL.monoU nl hl hx nza naB') (VdL.one (Vd.monoU nd hv hx nza naB))⟩
            obtain ⟨F2, n2⟩ := n.write (i := i) (B2 := []) hv.foot ha hx es0 hi hd (by simp only [OD.noAl, noAlL_app, nl]; simp [noAlL, nd]) (fun b m => by
              rcases List.mem_cons.mp m with rfl | m
              · exact .inl ha
              · exact (List.mem_append.mp m).imp_left (tail_mem eF)) (fun b m => (nomatch m)) (by
              rw [List.append_nil]
              refine List.nodup_cons.mpr ⟨fun m => (List.mem_append.mp m).elim naB' naB, List.nodup_append.mpr ⟨(List.nodup_cons.mp ndF).2, n.nd, fun x hx' y hy e => ?_⟩⟩
              subst e
              exact n.dj x hy i (tail_mem eF hx'))
            exact q σ Z1 _ F2 n2 .refl
          · exact q.elim
        · exact q.elim
    · exact q.elim
/-! pop -/
theorem VdL.erase : ∀ {l : List OD} {xs : List V} {B : List Addr} {j : Nat} {d : OD}, VdL T Z H l xs B → l[j]? = some d → ∃ x Bj Br, xs[j]? = some x ∧ Vd T Z H d x Bj ∧ VdL T Z H (l.eraseIdx j) (xs.eraseIdx j) Br ∧ (Bj ++ Br).Perm B
  | [], xs, B, j, d, h, e => by simp at e
  | d0 :: l, xs, B, j, d, h, e => by
    simp only [VdL] at h
    obtain ⟨x, r, B1, B2, rfl, rfl, s, q⟩ := h
    cases j with
    | zero =>
      simp at e
      subst e
      exact ⟨x, B1, B2, rfl, s, q, List.Perm.refl _⟩
    | succ j =>
      obtain ⟨y, Bj, Br, e1, e2, e3, e4⟩ := VdL.erase (j := j) q (by simpa using e)
      refine ⟨y, Bj, B1 ++ Br, by simpa using e1, e2, ?_, ?_⟩
      · simp only [List.eraseIdx_cons_succ, VdL]
        exact ⟨x, _, B1, Br, rfl, rfl, s, e3⟩
      · have : (Bj ++ (B1 ++ Br)).Perm (B1 ++ (Bj ++ Br)) := by
          rw [← List.append_assoc, ← List.append_assoc]
          exact List.Perm.append_right _ List.perm_append_comm
        exact this.trans (List.Perm.append_left _ e4)
theorem noAlL_erase : ∀ {l : List OD} {j : Nat}, noAlL l = true → noAlL (l.eraseIdx j) = true
  | [], j, h => by simp [noAlL]
  | d :: l, 0, h => by
    simp only [noAlL, Bool.and_eq_true] at h
    exact h.2
  | d :: l, j + 1, h => by
    simp only [noAlL, Bool.and_eq_true] at h
    simp only [List.eraseIdx_cons_succ, noAlL, h.1, noAlL_erase h.2, Bool.and_self]
theorem noAlL_get : ∀ {l : List OD} {j : Nat} {d : OD}, noAlL l = true → l[j]? = some d → d.noAl = true
  | [], j, d, h, e => by simp at e
  | d0 :: l, 0, d, h, e => by
    simp only [noAlL, Bool.and_eq_true] at h
    simp at e; subst e; exact h.1
  | d0 :: l, j + 1, d, h, e => by
    simp only [noAlL, Bool.and_eq_true] at h
    exact noAlL_get h.2 (by simpa using e)
def ePop (i : Nat) (m : EM) : EM := fun ρ => match ρ[i]? with
  | some (some (.ol _)) => (match m ρ with
    | .ok (.pl (.int k)) ρ1 => (match ρ1[i]? with
      | some (some (.ol l)) => (match ixN l.length k with
        | some j => (match l[j]? with
          | some d => if l.length ≤ 16777216 then .ok d (ρ1.set i (some (.ol (l.eraseIdx j)))) else .st
          | none => .st)
        | none => .st)
      | _ => .st)
    | .ok _ _ => .st
    | .ex k p ρ1 => .ex k p ρ1
    | .st => .st)
  | _ => .st
theorem pe_pop {i : Nat} {o e : Expr} {m : EM} {apos cpos : Pos} (ho : PE X o (tVar i)) (he : PE X e (tE T W m)) (hbase : attributeBase o "pop" X.env (eval o X.env) = eval o X.env := by rfl) (hfew : ((backTo cpos (starEach (e :: []) X.env)).all (fun x => !x.1) && (backToKw cpos (keywordEach [] X.env)).all (fun x => x.1.isSome) && decide ((e :: []).length + ([] : List Keyword).length + (if ([] : List Keyword).isEmpty then 0 else 1) < 30)) = true := by rfl) (hline : (apos.endLine == cpos.line) = true := by rfl)
    (hs : starEach [e] X.env = (false, eval e X.env) :: starEach [] X.env := by rfl) (hpl : (backTo cpos (starEach [] X.env)).any (·.1) = false := by rfl) :
    PE X (.Call (.Attribute o "pop" apos) [e] [] cpos) (tE T W (ePop i m)) :=
  pe_imp (pe_bm PySem.F.plainAttrs_list PySem.F.slot_list_pop PySem.F.type_list_pop mt_popAt ho (pa_cons he pa_nil hs) hbase hfew hline hs hpl) fun σ H Q q => by
    obtain ⟨Z, F, ρ, E, na, q⟩ := of_tE q
    unfold ePop at q
    split at q
    · rename_i l0 e0
      obtain ⟨a0, xs0, B0', es0, eF0, hx0, hl0, hi0⟩ := own_at E e0
      refine ⟨.ref a0, es0, Or.inl ⟨rfl, xs0, sqL_rd (Rd.of hx0)⟩, tE_of E na ?_⟩
      cases e1 : m ρ with
      | st => rw [e1] at q; exact q
      | ex k p ρ1 => rw [e1] at q; exact q
      | ok d ρ1 =>
        rw [e1] at q
        intro v Z1 H1 F1 B1 n hv nd
        cases d with
        | pl p =>
          cases p with
          | int k =>
            dsimp only at q
            split at q
            · rename_i l e2
              split at q
              · rename_i j ej
                split at q
                · rename_i dj edj
                  split at q
                  · rename_i c
                    obtain ⟨a, xs, B', es, eF, hx, hl, hi⟩ := own_at n.ev e2
                    rw [es0] at es
                    cases es
                    have nl : noAlL l = true := n.na i _ e2
                    have ndF : (a0 :: B').Nodup := eF ▸ n.ev.nd i
                    have ha : a0 ∈ F1 i := by rw [eF]; exact List.mem_cons_self
                    have nza := n.ev.nz i a0 ha
                    have naB' : a0 ∉ B' := (List.nodup_cons.mp ndF).1
                    obtain ⟨x, Bj, Br, f1, f2, f3, f4⟩ := hl.erase edj
                    obtain ⟨g1, g2, g3, g4⟩ := ixN_seq ej
                    rw [← hl.len] at g1 g3 g4
                    have hsz : xs.length ≤ 16777216 := by rw [hl.len]; exact c
                    have mB : ∀ b, b ∈ Bj ∨ b ∈ Br → b ∈ B' := fun b h => f4.mem_iff.mp (List.mem_append.mpr h)
                    refine ⟨a0, xs, k, j, x, rfl, by rw [int_of hv], hx, by omega, by omega, g1, f1, ?_⟩
                    have hd : Vd T Z1 (upd H1 a0 (.lst (xs.eraseIdx j))) (.ol (l.eraseIdx j)) (.ref a0) (a0 :: Br) := by
                      simp only [Vd]
                      exact ⟨a0, _, Br, rfl, rfl, upd_same, VdL.monoU (noAlL_erase nl) f3 hx nza fun m => naB' (mB _ (.inr m))⟩
                    obtain ⟨F2, n2⟩ := n.write (i := i) (B2 := Bj) hv.foot ha hx es0 hi hd (by simp only [OD.noAl]; exact noAlL_erase nl) (fun b m => by
                      rcases List.mem_cons.mp m with rfl | m
                      · exact .inl ha
                      · exact .inl (tail_mem eF (mB _ (.inr m)))) (fun b m => .inl (tail_mem eF (mB _ (.inl m)))) (by
                      have n0 := f4.nodup_iff.mpr (List.nodup_cons.mp ndF).2
                      have n1 := List.nodup_append.mp n0
                      rw [List.cons_append]
                      refine List.nodup_cons.mpr ⟨fun m => naB' (mB _ ((List.mem_append.mp m).symm)), List.nodup_append.mpr ⟨n1.2.1, n1.1, fun x hx' y hy e => n1.2.2 y hy x hx' e.symm⟩⟩)
                    have ndj := noAlL_get nl edj
                    exact q x Z1 _ F2 Bj n2 (Vd.monoU ndj f2 hx nza fun m => naB' (mB _ (.inl m))) ndj
                  · exact q.elim
                · exact q.elim
              · exact q.elim
            · exact q.elim
          | _ => exact q.elim
        | _ => exact q.elim
    · exact q.elim
end
end Rq
end

section
set_option Elab.async false
set_option linter.all false
set_option maxRecDepth 100000
set_option maxHeartbeats 4000000
namespace Rq
open PySem PySem.Spec PyProof.Rows L2

/-! ## an error's class: class X(..): def __init__(self, value=None): super().__init__(value); self.value = value -/
structure XPos where
  p0 : Pos
  p1 : Pos
  p2 : Pos
  p3 : Pos
  p4 : Pos
  p5 : Pos
  p6 : Pos
  p7 : Pos
  p8 : Pos
  p9 : Pos
  pa : Pos
  pb : Pos
  pc : Pos
def xArgs (p : XPos) : Arguments := { posonlyargs := [], args := [{ arg := "self", annotation := none, pos := p.p0 }, { arg := "value", annotation := none, pos := p.p1 }], vararg := none, kwonlyargs := [], kw_defaults := [], kwarg := none, defaults := [.Constant .none 0 p.p2] }
def xSup (p : XPos) : Expr := .Call (.Attribute (.Call (.Name "super" p.p3) [] [] p.p4) "__init__" p.p5) [.Name "value" p.p6] [] p.p7
def xBody (p : XPos) : List Stmt := [.Expr (xSup p) p.p8, .Assign [.Attribute (.Name "self" p.p9) "value" p.pa] (.Name "value" p.pb) p.pc]
def xScope : Scope := { kind := .function, names := [(Str.ofString "self", .local), (Str.ofString "value", .local), (Str.ofString "__class__", .free), (Str.ofString "super", .globalImplicit)], isGenerator := false, isCoroutine := false, more := [] }
/-- how the call of super().__init__ is read at these places -/
def xRd (p : XPos) : Prop := ∀ env : Env, ∃ pl : Sem Bool, eval (xSup p) env = (do
      let ov ← attributeBase (.Call (.Name "super" p.p3) [] [] p.p4) "__init__" env (eval (.Call (.Name "super" p.p3) [] [] p.p4) env)
      standAt p.p5.atName
      let (f, first) ← holding [ov] (getMethod ov "__init__" pl)
      callWith p.p7 f first (backTo p.p7 (starEach [.Name "value" p.p6] env)) [])
/-- what the top has written of such a class -/
structure XcT (P : Program) (K : PySem.W.Frag) (C : Addr) : Prop where
  cls : ∃ nm q N bs bm sn sub ab col dd k0 k1 k2 k3 k5, K.lookup C = some (excClassObj nm q C N bs bm true sn sub ab col dd k0 k1 k2 k3 k5 "ValueError.__new__") ∧ HandSPX.refsVE bm = true
  along : PySem.W.ks_superIn K C C "__init__" = some (some (.builtin "ValueError.__init__"))
  fn : ∃ (fI cc cda : Addr) (p : XPos) (q : Str) (dt : Addr) (kV doc pm ct oc ccl cl dcl : Value) (an od cdd cld ddd : Option Addr) (osl ccs csl dsl : Array (Option Value)) (vs : Array Value) (dn : Nat) (file : Str) (tf : Tok),
    PySem.W.findIn K (.ref C) "__init__" = some (some (.ref fI)) ∧ PySem.W.typeIn K (.ref fI) = some (.type "function") ∧
    K.lookup fI = some ⟨oc, od, .func (PySem.W.ksFn "__init__" q (xArgs p) (xBody p) xScope (.ref dt) kV doc pm an (.ref cda) ct cc), osl⟩ ∧ K.lookup dt = some ⟨dcl, ddd, .seq #[.none] dn, dsl⟩ ∧ PySem.W.codeIn K (.ref cda) q = true ∧
    K.lookup cda = some ⟨ccl, cdd, .fields vs, ccs⟩ ∧ vs[2]? = some (.str file tf) ∧ ((P.main.file : Str) == file) = true ∧ K.lookup cc = some ⟨cl, cld, .cell (some (.ref C)), csl⟩ ∧ xRd p
  sup : PySem.W.nsIn K mainGlobals "super" = some none
  top : (P.main.scope.names.lookup ("super" : Str)).isSome = false
  opq : PySem.W.nsIn K cStatics "thirdparty.any" = some none
  subC : PySem.W.mroIn K C (.ref C) = some true
  subV : PySem.W.subIn K (.ref C) (.type "ValueError") = some true
  sa : PySem.W.findIn K (.ref C) "__setattr__" = some (some (.builtin "object.__setattr__"))
  noV : PySem.W.findIn K (.ref C) "value" = some none
  exC : PySem.W.subIn K (.ref C) (.type "BaseException") = some true
  tyC : PySem.W.typeIn K (.ref C) = some (.type "type")
  kC : PySem.W.keepIn K (.ref C) = true

section
variable {P : Program} {w : World} {K : PySem.W.Frag} {A : Around} {E : Value → Shared → Prop} {hp : Heap} {g : Array GenState} {d : Drawn} {t : Nat} {os : OsState} {C : Addr} {u : Value} {mg mb : Str → Option Value}
/-- super().__init__(v) of the bound wrapper -/
theorem xc_bound {q e t0 : Addr} {Q : Value → Shared → Prop} (T : XcT P K C) (X : K.In hp) (hq : hp.get? q = some (PySem.W.kxs_mw "ValueError.__init__" e)) (he : hp.get? e = some (PySem.W.excObj C t0 none .none))
    (h : ∀ h' t1, (∀ b o, b ≠ e → hp.get? b = some o → h'.get? b = some o) → h'.get? e = some (PySem.W.excObj C t1 none .none) → Q .none ⟨h', g, d, t, os⟩) :
    wpAny (model P w) A (call (.ref q) [u]) Q E ⟨hp, g, d, t, os⟩ := by
  obtain ⟨nm, qn, N, bs, bm, sn, sub, ab, col, dd, k0, k1, k2, k3, k5, hC, hbm⟩ := T.cls
  refine wpAny_call (codeAny_of_tree ?_)
  show wpAny _ A.in1 (callAny (.ref q) ⟨[u], []⟩) _ _ _
  simp only [callAny]
  refine wpAny_bind (wpAny_load hq ?_)
  simp only [PySem.W.kxs_mw, show (Value.type "method-wrapper" == Value.type "method" || Value.type "method-wrapper" == Value.type "builtin_function_or_method" || Value.type "method-wrapper" == Value.type "method-wrapper") = true by decide, if_true]
  refine PySem.W.KFB.if_so (by decide) ?_
  refine wpAny_bind (PySem.W.check_bound_init F.excBase_ValueError.toExcCallFacts (X _ _ hC) he rfl ?_)
  refine wpAny_bind (wpAny_pure (wpAny_pure ?_))
  refine ⟨plainId_quiet F.excBase_ValueError.init.plain _, codeAny_builtin F.excBase_ValueError.initEntry ?_⟩
  exact PySem.W.exc_init_tree (cls := .ref C) (t0 := t0) (dv := none) (c2 := .none) (c3 := .none) (b4 := .bool false) he (by show 1 ≤ sizeLine; rw [sizeLine_eq]; omega) fun h' k e' _ => h h' _ k e'
/-- C(u) -/
theorem xc_raw {Q : Value → Shared → Prop} (T : XcT P K C) (X : K.In hp) (hG : hp.Ns mainGlobals mg) (hB : hp.Ns builtinsNs mb) (hb : ∀ x : Str, x ≠ "__name__" → mb x = bootBuiltins x) (hlim : hp.NoLimit) (hr : Room 1 A)
    (hq : ∀ h2 t2 e dx t1, (∀ b o, hp.get? b = some o → h2.get? b = some o) → hp.get? e = none → hp.objs.size ≤ dx → dx ≠ e →
      h2.get? e = some ({ cls := .ref C, dict := some dx, data := .fields #[.ref t1, .none, .none, .none, .bool false, .none] } : Obj) → h2.Ns1 dx (fun y => if y = "value" then some u else none) → Q (.ref e) ⟨h2, g, d, t2, os⟩) :
    wpAny (model P w) A (call (.ref C) [u]) Q E ⟨hp, g, d, t, os⟩ := by
  obtain ⟨nm, qn, N, bs, bm, sn, sub, ab, col, dd, k0, k1, k2, k3, k5, hC, hbm⟩ := T.cls
  obtain ⟨fI, cc, cda, p, q, dt, kV, doc, pm, ct, oc, ccl, cl, dcl, an, od, cdd, cld, ddd, osl, ccs, csl, dsl, vs, dn, file, tf, iC, tI, lI, lD, cI, lcd, hvs, hfile, lcc, hxr⟩ := T.fn
  have hcl : PySem.W.clsIn K C = some { name := nm, bases := bs, mro := .ref C :: bm, ns := N, qualname := qn, hasDict := true, slotNames := sn, subclasses := sub, abstract := ab, collection := col, hasDel := false } := by unfold PySem.W.clsIn; rw [hC] <;> rfl
  have hdr : ((Value.ref C :: bm).dropWhile (· != .ref C)).drop 1 = bm := by simp [List.dropWhile_cons]
  have hal : PySem.W.alongIn K "__init__" bm = some (some (.builtin "ValueError.__init__")) := by
    have z := T.along
    unfold PySem.W.ks_superIn at z
    rw [hcl, Option.bind_some, hdr] at z
    exact z
  refine wpAny_call (HandSPX.call_own F.excBase_ValueError (fun Y => HandSPX.refsVE_contains Y bm hbm) (X _ _ hC) (PySem.W.looks_findIn X iC) (fun self => PySem.W.bind_fn X self tI) (by show 1 ≤ sizeLine; rw [sizeLine_eq]; omega) ?_)
  have k1 : ∀ b o, hp.get? b = some o → ((hp.push (PySem.W.kdv_tup [u])).push (HandSPX.excO C hp.objs.size)).get? b = some o := fun b o e => Heap.get?_push_of_some _ (Heap.get?_push_of_some _ e)
  have he1 : ((hp.push (PySem.W.kdv_tup [u])).push (HandSPX.excO C hp.objs.size)).get? (hp.objs.size + 1) = some (HandSPX.excO C hp.objs.size) := by heap_get
  have hen : hp.get? (hp.objs.size + 1) = none := Heap.get?_none_of_le (Nat.le_succ _)
  generalize (hp.push (PySem.W.kdv_tup [u])).push (HandSPX.excO C hp.objs.size) = h1 at k1 he1
  generalize hp.objs.size = n0 at he1 hen hq
  have X1 := X.keeps k1
  have hbi : BindsTo ⟨h1, g, d, t, os⟩ (PySem.W.ksFn "__init__" q (xArgs p) (xBody p) xScope (.ref dt) kV doc pm an (.ref cda) ct cc) ⟨[.ref (n0 + 1), u], []⟩ [("self", .ref (n0 + 1)), ("value", u)] :=
    BindsTo.of_defaults (T := dt) rfl (X1 _ _ lD) rfl rfl rfl
  refine PySem.ks_codeAny_call_defAt (fd := PySem.W.ksFn "__init__" q (xArgs p) (xBody p) xScope (.ref dt) kV doc pm an (.ref cda) ct cc) (body := xBody p) (binds := [("self", .ref (n0 + 1)), ("value", u)]) (hr.make C [u] []).depth (X1 _ _ lI) rfl (hlim.keeps k1)
    (PySem.W.codeRec_of X1 cI) rfl hbi (by show ∀ x ∈ xScope.names, _; decide) (fun x hx => ?_) (fun h2 hns2 k2 => ?_)
  · simp only [List.mem_cons, List.not_mem_nil, or_false] at hx
    rcases hx with rfl | rfl <;> rfl
  have X2 := X1.keeps k2
  have he2 := k2 _ _ he1
  have hne : n0 + 1 ≠ h1.objs.size := Nat.ne_of_lt (Heap.lt_size he1)
  have K12 : ∀ b o, hp.get? b = some o → h2.get? b = some o := fun b o e => k2 _ _ (k1 _ _ e)
  have ISA : ∀ (M : Model) (h : Heap), K.In h → ∀ {ox : Obj}, h.get? (n0 + 1) = some ox → ox.cls = .ref C → PySem.W.Looks M h (isInstance (.ref (n0 + 1)) (.type "ValueError")) true := fun M h X ox ho hc => by
    have ty : PySem.W.Looks M h (typeOf (.ref (n0 + 1))) (.ref C) := fun A Q E s k q => wpAny_typeOf_ref (k _ _ ho) (by rw [hc]; exact q)
    exact ty.andThen (PySem.W.looks_subIn X T.subV)
  refine PySem.ks_wpAt_execs_cons ?_
  refine PySem.ks_wpAt_Expr_any ?_
  obtain ⟨pl, hpl⟩ := hxr (callEnv (PySem.W.ksFn "__init__" q (xArgs p) (xBody p) xScope (.ref dt) kV doc pm an (.ref cda) ct cc) h1.objs.size fI)
  refine PySem.ks_wpAt_MethodCall (pl := pl) ?_ hpl
  refine PySem.ks_wpAt_super_base (f := fI) (cc := cda) (by rfl) (by rfl) (by decide) rfl (X2 _ _ lI) rfl rfl rfl (X2 _ _ lcd) rfl hvs hfile T.top ?_
  refine PySem.W.ks_loadName_global (by rfl) (by rfl) (Calls.loadGlobal_builtin (mg := mg) (mb := mb) (hG.keeps K12) (PySem.W.mg_none_of X hG T.sup) (hB.keeps K12) ((hb "super" (by decide)).trans (show bootBuiltins "super" = some (.type "super") by decide +kernel)) ⟨rfl, ?_⟩)
  refine wpAny_loadName_free (c := cc) (v := .ref C) (by rfl) (by rfl) (by rfl) ⟨_, X2 _ _ lcc, rfl⟩ ?_
  refine wpAny_loadName_local (v := .ref (n0 + 1)) (by rfl) (by rfl) hns2 rfl ?_
  refine PySem.ks_wpAny_isType_cls (X2 _ _ hC) rfl ⟨rfl, ?_⟩
  refine PySem.ks_wpAny_call_super (D := C) (C := C) (X2 _ _ hC) rfl he2 rfl (fun c => by simp [HandSPX.excO]) (PySem.W.looks_mroIn X2 T.subC) (fun h3 hso k3 => ?_)
  have X3 := X2.keeps k3
  have he3 := k3 _ _ he2
  have hxC : n0 + 1 ≠ C := fun z => by
    have y := X2 _ _ hC
    rw [← z, he2] at y
    cases y
  refine PySem.W.kxs_getMethod PySem.W.kxs_ValueError (K := K) (l₀ := .ref C :: bm) (l := bm) hso (PySem.W.looks_opaque X3 T.opq) ((PySem.W.looks_clsIn X3 hcl).andThen .now) hdr X3 hal (ISA _ _ X3 he3 rfl) hxC (by decide) ?_
  have k4 : ∀ b o, h3.get? b = some o → (h3.push (PySem.W.kxs_mw "ValueError.__init__" (n0 + 1))).get? b = some o := fun b o e => Heap.get?_push_of_some _ e
  have hq4 : (h3.push (PySem.W.kxs_mw "ValueError.__init__" (n0 + 1))).get? h3.objs.size = some (PySem.W.kxs_mw "ValueError.__init__" (n0 + 1)) := Heap.get?_push_at rfl rfl
  have he4 := k4 _ _ he3
  have hns4 := (hns2.keeps k3).keeps k4
  have X4 := X3.keeps k4
  have K14 : ∀ b o, hp.get? b = some o → (h3.push (PySem.W.kxs_mw "ValueError.__init__" (n0 + 1))).get? b = some o := fun b o e => k4 _ _ (k3 _ _ (K12 _ _ e))
  generalize h3.push (PySem.W.kxs_mw "ValueError.__init__" (n0 + 1)) = h4 at hq4 he4 hns4 X4 K14
  refine PySem.W.kxs_callWith (i := "ValueError.__init__") (x := n0 + 1) (by rfl) ?_
  refine Calls.evalArgs_plain (Calls.spliced_cons (wpAny_Name (wpAny_loadName_local (v := u) (by rfl) (by rfl) hns4 rfl (Calls.spliced_nil ⟨hq4, ?_⟩)) (by decide)))
  refine xc_bound (t0 := n0) T X4 hq4 he4 (fun h5 t1 k5 he5 => ?_)
  have nh : ∀ {b : Addr} {o : Obj}, hp.get? b = some o → b ≠ n0 + 1 := fun {b o} e z => by
    rw [z, hen] at e
    cases e
  have X5 : K.In h5 := fun b o e => k5 b o (nh (X _ _ e)) (X4 b o e)
  have hns5 : h5.Ns h1.objs.size fun x => List.lookup x [(Str.ofString "self", Value.ref (n0 + 1)), (Str.ofString "value", u)].reverse := by
    obtain ⟨o, es, ep, ho, r⟩ := hns4
    exact ⟨o, es, ep, k5 _ _ (Ne.symm hne) ho, r⟩
  refine PySem.ks_wpAt_execs_cons ?_
  refine wpAt_of_wpAny (plainObj_wpAny_Assign_Attribute ?_)
  refine wpAny_Name (wpAny_loadName_local (v := u) (by rfl) (by rfl) hns5 rfl ?_) (by decide)
  refine wpAny_Name (wpAny_loadName_local (v := .ref (n0 + 1)) (by rfl) (by rfl) hns5 rfl ?_) (by decide)
  refine PySem.W.set_plain X5 (ox := PySem.W.excObj C t1 none .none) (od := none) ⟨he5, rfl, rfl, trivial⟩ T.sa ?_
  refine HandSPX.exc_osa X5 he5 hcl (show HandSPX.refsVE (.ref C :: bm) = true from hbm) rfl T.noV (fun h6 tk6 dx k6 dn dne hx hn => ?_)
  refine wpAt_of_wpAny (wpAny_execs_nil ⟨rfl, ?_⟩)
  exact hq h6 tk6 (n0 + 1) dx t1 (fun b o e => k6 _ _ (nh e) (k5 _ _ (nh e) (K14 _ _ e))) hen (Nat.le_trans (Nat.le_of_lt (Nat.lt_of_succ_lt (Heap.lt_size he5))) dn) dne hx hn
end
section
variable {X : Cx} {T : Tb} {W : WX} {ln : List Nat}
theorem relO_one {f : Str} {y : V} {u : Value} (ry : RelV y u) (g : Str) : RelO (([(f, y)] : List (Str × V)).lookup g) (if g = f then some u else none) := by
  by_cases h : g = f
  · subst h
    simp [List.lookup]
    exact ry
  · have e : (g == f) = false := by simpa using h
    rw [if_neg h]
    simp [List.lookup, e]
    trivial
/-- X(e) makes an error -/
theorem pmk_xc {x : Str} {e : Expr} {te : TE} {C : Addr} {p pos : Pos} (D : XcT X.prog X.K C) (hr : Room 1 X.A) (hg : Gl X x) (hm : X.mg x = some (.ref C)) (he : PE X e te) (hdb : (x == ("__debug__" : Str)) = false := by decide)
    (hs : starEach [e] X.env = (false, eval e X.env) :: starEach [] X.env := by rfl) :
    PMk X (.Call (.Name x p) [e] [] pos) (fun σ H Q => te σ H fun v H1 => ∀ d, H1 d = none → Q (.ref C) (some d) (upd H1 d (.xd [(("value" : Str), v)]))) := by
  intro pins s σ H Q I h
  refine wpAny_Call_Name_kw (ld_glob I hg hm ?_ hdb)
  refine PySem.W.callWith_K (h₀ := X.base) I.ok.mod.kin D.kC ?_ hs (by rfl)
  rw [hs]
  show wpAny _ _ (spliced ((false, eval e X.env) :: backTo pos (starEach [] X.env))) _ _ s
  refine Calls.spliced_cons (thn (he.run pins s σ H _ I h) fun u s1 ⟨v, H1, I1, r1, q1⟩ => ?_)
  refine Calls.spliced_nil ⟨I1.kIn, ?_⟩
  show wpAny _ _ (call (.ref C) [u]) _ _ _
  obtain ⟨mb, hB, hb⟩ := I1.mod.blt
  obtain ⟨hp, g, d, t, os⟩ := s1
  refine xc_raw D I1.kIn (I1.mod.glob.keeps I1.bk) (hB.keeps I1.bk) hb I1.nolimit hr fun h2 t2 a dx t1 k ha dn dne hx hn => ?_
  have hH : H1 a = none := I1.hok.gone ha
  have hHd : H1 dx = none := I1.hok.fresh dn
  obtain ⟨G, g1, g2⟩ := restrict h2 fun b => decide (b ≠ a)
  have gk : ∀ b, b ≠ a → G.get? b = h2.get? b := fun b hb => g1 b (decide_eq_true hb)
  have ga : G.get? a = none := g2 a (by simp)
  have kG : ∀ b o, hp.get? b = some o → G.get? b = some o := fun b o e => by
    rw [gk b (fun z => by rw [z, ha] at e; cases e)]
    exact k b o e
  have J : Inv X pins σ (upd H1 dx (.xd [(("value" : Str), v)])) ⟨G, g, d, t2, os⟩ := by
    refine I1.laid (t' := t2) (a := dx) (o := .xd [(("value" : Str), v)]) (h' := G) kG dn ?_
    obtain ⟨o, es, ep, ho, hr'⟩ := hn
    exact ⟨_, ⟨o, es, ep, by rw [gk dx dne]; exact ho, hr'⟩, fun f => relO_one r1 f⟩
  refine ⟨a, _, _, ⟨G, g, d, t2, os⟩, _, .ref C, some dx, rfl, J, fun b o e => ?_, ga, hx, ⟨rfl, rfl⟩, rfl, rfl, ?_, rfl, I1.bare, raises_own D.exC D.tyC, q1 dx hHd⟩
  · by_cases hba : b = a
    · rw [hba, ga] at e
      cases e
    · exact (gk b hba).symm.trans e
  · rw [upd_ne (Ne.symm dne)]
    exact hH
end
end Rq
end

section
set_option Elab.async false
set_option linter.all false
set_option maxRecDepth 100000
set_option maxHeartbeats 4000000
namespace Rq
open PySem PySem.Spec PyProof.Rows L2

section
variable {X : Cx} {T : Tb} {W : WX} {ln : List Nat}
/-! ## raise -/
def bRaise (k : Nat) (m : EM) : SM := fun ρ => match m ρ with
  | .ok d ρ1 => .ex k d.toP ρ1
  | .ex k p ρ1 => .ex k p ρ1
  | .st => .st
theorem fs_raise {x : Str} {e : Expr} {m : EM} {C : Addr} {k : Nat} {p cpos pos : Pos} (hc : X.calm = true) (tk : Takes X W) (D : XcT X.prog X.K C) (hr : Room 1 X.A) (hg : Gl X x) (hm : X.mg x = some (.ref C)) (hk : T.cls k = .ref C) (he : PE X e (tE T W m)) (hdb : (x == ("__debug__" : Str)) = false := by decide)
    (hs : starEach [e] X.env = (false, eval e X.env) :: starEach [] X.env := by rfl) : PS X (.Raise (some (.Call (.Name x p) [e] [] cpos)) none pos) (tS T W ln (bRaise k m)) :=
  ps_imp (ps_raise hc tk (pmk_xc D hr hg hm he hdb hs)) fun D σ H h => by
    obtain ⟨Z, F, ρ, E, na, q⟩ := of_tS h
    refine tE_of E na ?_
    unfold bRaise at q
    cases e1 : m ρ with
    | st => rw [e1] at q; exact q
    | ex k p ρ1 =>
      rw [e1] at q
      intro c dd Z' H' F' n hx
      exact q σ c dd Z' H' F' n hx .refl
    | ok d ρ1 =>
      rw [e1] at q
      intro v Z1 H1 F1 B1 n hv nd dx hdx
      have y := Ny.frz n.ev.zx hv nd
      have nn := Ny.nx E n hv.foot y
      have vw := y.vd
      simp only [Vd] at vw
      have sm : Same H1 (upd H1 dx (.xd [(("value" : Str), v)])) := fun b u e => by rw [upd_ne (ne_of_none e hdx)]; exact e
      refine q σ (.ref C) (some dx) _ _ F1 (nn.lay (fun a h => (nomatch h)) hdx) ⟨hk.symm, dx, v, rfl, upd_same, Vw.mono (Same.kp sm _) (fun _ z => z) vw.2⟩ .refl

/-! ## try: .. except X as e: y = e -/
/-- an object of ours that wasn't tracked, new since the entry, is tracked -/
theorem track {pins : List (Addr × Obj)} {σ : L2.St} {H : Hp} {s : Shared} {a : Addr} {o : HO} (I : Inv X pins σ H s) (n0 : X.s_0.heap.get? a = none) (nH : H a = none) (nL : a ≠ X.env.locals) (nC : ∀ x c, X.env.cells.lookup x = some c → c ≠ a) (nP : ∀ p ∈ X.pn ++ pins, p.1 ≠ a)
    (ok : ObjOk X.prog X.w (upd H a o) s.heap a o) : Inv X pins σ (upd H a o) s := by
  refine ⟨I.ok, I.os, I.bare, ⟨I.base.keep, I.base.slot, fun b u e n hx => ?_, I.base.there, fun b xs e => ?_, fun b u v e => ?_, fun b ps e => ?_⟩, I.loc, I.cell, ?_, fun x c e => ?_, fun p hp => ?_, fun b u e => ?_, I.len⟩
  · rw [upd_ne (fun z => by rw [z, n0] at e; cases e)]
    exact I.base.free b u e n hx
  · have q := I.base.tups b xs e
    rw [upd_ne (ne_of_none q nH)]; exact q
  · have q := I.base.frzs b u v e
    rw [upd_ne (ne_of_none q nH)]; exact q
  · obtain ⟨m, q⟩ := I.base.tbls b ps e
    exact ⟨m, by rw [upd_ne (ne_of_none q nH)]; exact q⟩
  · rw [upd_ne (Ne.symm nL)]; exact I.free
  · rw [upd_ne (nC x c e)]; exact I.freeC x c e
  · obtain ⟨h1, h2, h3, h4, h5⟩ := I.pin p hp
    exact ⟨h1, by rw [upd_ne (nP p hp)]; exact h2, h3, h4, h5⟩
  · by_cases hb : b = a
    · subst hb
      rw [upd_same] at e
      cases e
      exact ok
    · rw [upd_ne hb] at e
      exact (I.hok b u e).stay (fun c v _ q => q) (fun c q => by rw [upd_ne (ne_of_none q nH)]; exact q) fun c xs q => by rw [upd_ne (ne_of_none q nH)]; exact q
theorem xc_ok {P : Program} {w : World} {H : Hp} {h : Heap} {a d : Addr} {c : Value} {oe : Obj} {vs : Array Value} (e : h.get? a = some oe) (z : Zc c (some d) oe) (dd : oe.data = .fields vs) : ObjOk P w H h a (.ext (xcP c a d)) :=
  ⟨⟨oe, vs, e, z.1, z.2, dd⟩, ⟨oe, e⟩, fun h1 h2 ⟨o, v, q, r⟩ k => ⟨o, v, k o q, r⟩⟩
/-- what the clause wishes of an error of the body: i: the slot of the clause's name, j: of the name that it is given to -/
def wMk (K : PySem.W.Frag) (c : Value) (i j : Nat) (D : Ends) : WX := fun cls d σ H =>
  PySem.W.exmOne K cls c = some true ∧ ∃ dx, d = some dx ∧ ∀ a, H a = none → D.nx (((σ.set i (some (.ref a))).set j (some (.ref a))).set i none) (upd H a (.ext (xcP cls a dx)))
theorem ps_try_mk {x n y : Str} {c : Value} {i j : Nat} {body : List Stmt} {np pos pos' p1 p2 p3 : Pos} {tb : WX → TS} (hs : X.stack = X.env :: X.outer) (hf : X.env.frame = some X.env.locals) (hex : X.ex = []) (hN : X.N.Nodup) (hi : X.N[i]? = some n) (hln : X.env.kindOf n = some .local)
    (hj : X.N[j]? = some y) (hlj : X.env.kindOf y = some .local) (hc : Names X x c)
    (hsw : swapsWith (.Name n p2) (some (.Name y p1)) p3.line X.env = pure false) (hd1 : (n == ("__debug__" : Str)) = false) (hd2 : (n == ("__classdict__" : Str)) = false)
    (hb : ∀ (W : WX) (pn : List (Addr × Obj)) (xe : Value → Shared → Prop), Takes (X.tr pn xe) W → PassesOwn (model X.prog X.w) X.A X.env xe → PSs (X.tr pn xe) body (tb W)) :
    PS X (.Try body [.ExceptHandler (some (.Name x np)) (some n) [.Assign [.Name y p1] (.Name n p2) p3] pos'] [] [] pos) (fun D σ H => tb (wMk X.K c i j D) D σ H) := by
  refine ⟨fun pins s σ H D I h => ?_⟩
  have ok := I.ok
  have hfr : X.A.frames = some (X.env :: X.outer) := by rw [ok.frames, hs]
  refine wpAny_Try_except ?_
  refine wpAny_mono ((hb (wMk X.K c i j D) (X.pn ++ pins) (fun e s₁ => wpAny (model X.prog X.w) X.A (noteFrame e X.env) (fun _ s₂ => wpAny (model X.prog X.w) X.A (setFlight e none) (fun _ s₃ =>
    wpAny (model X.prog X.w) X.A (handleBy e X.env [.ExceptHandler (some (.Name x np)) (some n) [.Assign [.Name y p1] (.Name n p2) p3] pos']) (SP X pins D) X.xe s₃) X.xe s₂) X.xe s₁) (fun u s' xx => ?_) PassesOwn.looking).run [] s σ H D (I.toTry _) h) (fun f s1 hsp => ?_) (fun e s1 he => he)
  · obtain ⟨a, B, sI, pins', σ', H', cls, d, rfl, J', nb, up, sky, na, os, ag, hb1, dx, rfl, hyes⟩ := xx
    have J : Inv X pins σ' H' sI := J'.ofTry ok
    have sky' : Sky B (X.env :: X.outer) a (Zc cls (some dx)) X.env.locals s'.heap := by rw [← hs]; exact sky
    show wpAny (model X.prog X.w) X.A (noteFrame (.ref a) X.env) _ _ _
    refine Sky.land Zc.steady hfr hf sky' fun h3 fl3 up3 => ?_
    have J3 : Inv X pins σ' H' { s' with heap := h3 } := J.landed nb fl3.1 (up.trans up3) os ag
    obtain ⟨oe3, vs3, he3, hz3, hd3⟩ := fl3.there
    have nfr : a ∉ frs (X.env :: X.outer) := fun hm => by
      obtain ⟨_, o', e', hnf⟩ := fl3.2.2.1.mem hm
      rw [he3] at e'; cases e'
      exact hnf _ hd3
    have nL : a ≠ X.env.locals := fun z => nfr (List.mem_filterMap.mpr ⟨X.env, List.mem_cons_self, by rw [hf, z]⟩)
    have nF : a ∉ X.fs := fun hm => by
      obtain ⟨e, he, q⟩ := List.mem_filterMap.mp hm
      exact nfr (List.mem_filterMap.mpr ⟨e, List.mem_cons_of_mem _ he, q⟩)
    -- new since the entry
    have nI : sI.heap.get? a = none := by
      cases e : sI.heap.get? a with
      | none => rfl
      | some o =>
        have z := nb a o e (by rw [hs]; exact nfr)
        rw [fl3.2.1] at z
        cases z
    have n0 : X.s_0.heap.get? a = none := by
      cases e : X.s_0.heap.get? a with
      | none => rfl
      | some o =>
        obtain ⟨o', z⟩ := J.base.there a o e (by rw [hex]; exact fun z => nomatch z)
        rw [nI] at z
        cases z
    have nP : ∀ p ∈ X.pn ++ pins, p.1 ≠ a := fun p hp z => by
      obtain ⟨q, _⟩ := J.pin p hp
      rw [z, nI] at q
      cases q
    have nC : ∀ x c, X.env.cells.lookup x = some c → c ≠ a := fun x c e z => by
      obtain ⟨v, o, ho, _⟩ := J.cell x c e
      rw [z, nI] at ho
      cases ho
    have S3 := J3.suite he3 hd3 na nL nF
    refine wpAny_handleBy_cons (codeAny_handlers_test ?_) (by intro q; cases q)
    have LT : PySem.W.Looks (model X.prog X.w) h3 (typeOf (.ref a)) cls := fun A Q E s k q => wpAny_typeOf_ref (k _ _ he3) (by rw [hz3.1]; exact q)
    have LM := PySem.W.exm_one (M := model X.prog X.w) (J3.kIn) LT hb1
    have test : ∀ {Q : Value → Shared → Prop} {E : Value → Shared → Prop}, Q c { s' with heap := h3 } → wpAny (model X.prog X.w) (X.A.mark (some (.ref a))) (eval (.Name x np) X.env) Q E { s' with heap := h3 } := fun {Q E} q => by
      obtain ⟨hg, hdbg, hm | ⟨hm, hv, hnn⟩⟩ := hc
      · exact ld_glob (X := X.suite a ((a, oe3) :: (X.pn ++ pins))) S3 hg hm q hdbg
      · exact ld_blt (X := X.suite a ((a, oe3) :: (X.pn ++ pins))) S3 hg hm hv q hnn hdbg
    refine test (LM.here ?_)
    refine codeAny_handlers_suite_as ?_
    refine HandSPX.lands_againZ fl3 fun h4 fl4 up4 => ?_
    have J4 : Inv X pins σ' H' { s' with heap := h4 } := J.landed nb fl4.1 ((up.trans up3).trans up4) os ag
    obtain ⟨oe4, vs4, he4, hz4, hd4⟩ := fl4.there
    have S4 := J4.suite he4 hd4 na nL nF
    refine store_ok (X := X.suite a ((a, oe4) :: (X.pn ++ pins))) (v := .ref a) S4 hN hi (.inl hln) rfl (fun s5 S5 => ?_) (.inr hln)
    have hlt : i < σ'.length := by rw [J.len]; exact (List.getElem?_eq_some_iff.mp hi).1
    have P1 : PSs (X.suite a ((a, oe4) :: (X.pn ++ pins))) [.Assign [.Name y p1] (.Name n p2) p3] (tAsg (tVar i) (gName j)) :=
      pss_one (ps_set (i := j) (X := X.suite a ((a, oe4) :: (X.pn ++ pins))) hN hj (.inl hlj) (pv (X := X.suite a ((a, oe4) :: (X.pn ++ pins))) i hi (.inl hln) hd1 hd2) hsw (.inr hlj))
    refine wpAny_mono (P1.run [] s5 _ H' { nx := fun σ6 H6 => σ6 = (σ'.set i (some (.ref a))).set j (some (.ref a)) ∧ H6 = H', rt := fun _ _ => False } S5 ⟨.ref a, List.getElem?_set_self hlt, rfl, rfl⟩) (fun f s6 hsp => ?_) (fun _ _ z => False.elim z)
    cases f with
    | next =>
      obtain ⟨σ6, H6, S6, e1, e2⟩ := hsp
      subst e1
      subst e2
      obtain ⟨p1', p2', _⟩ := S6.pin (a, oe4) (List.mem_append_left _ List.mem_cons_self)
      have J6 := S6.unsuite (X := X) (pins := pins) ok
      have J7 := track (o := .ext (xcP cls a dx)) J6 n0 p2' nL nC nP (xc_ok p1' hz4 hd4)
      exact gone_ok J7 hN hi hln fun s7 J8 => ⟨_, _, J8, hyes a p2'⟩
    | brk => obtain ⟨_, _, _, z⟩ := hsp; exact z.elim
    | cont => obtain ⟨_, _, _, z⟩ := hsp; exact z.elim
    | ret u => obtain ⟨_, _, _, _, _, z⟩ := hsp; exact z.elim
  · cases f with
    | next =>
      obtain ⟨σ', H', J', q⟩ := hsp
      exact wpAny_execs_nil ⟨σ', H', J'.ofTry ok, q⟩
    | brk =>
      obtain ⟨σ', H', J', q⟩ := hsp
      exact ⟨σ', H', J'.ofTry ok, q⟩
    | cont =>
      obtain ⟨σ', H', J', q⟩ := hsp
      exact ⟨σ', H', J'.ofTry ok, q⟩
    | ret u =>
      obtain ⟨v, σ', H', J', r, q⟩ := hsp
      exact ⟨v, σ', H', J'.ofTry ok, r, q⟩
/-- ks: the classes that the clause takes; i: the clause's name, j: the name that it is given to -/
def bTry (i j : Nat) (ks : List Nat) (b : SM) : SM := fun ρ => match b ρ with
  | .ex k p ρ1 => if ks.contains k = true then .nx (((ρ1.set i (some (.pl (.xc k p)))).set j (some (.pl (.xc k p)))).set i none) else .st
  | r => r
theorem Nx.drop {Z Z1 : Addr → Prop} {H H1 : Hp} {F F1 : Nat → List Addr} {ρ1 : En} {σ1 : L2.St} {B : List Addr} {i : Nat} {o : Option V} (n : Nx T Z H F Z1 H1 ρ1 σ1 F1 B) : Nx T Z H F Z1 H1 (ρ1.set i none) (σ1.set i o) (updF F1 i []) [] where
  keep := n.keep
  dom := n.dom
  up := n.up
  dn := n.dn
  own := fun a h => by
    rcases h with h | ⟨j, h⟩
    · exact nomatch h
    · unfold updF at h
      by_cases c : j = i
      · rw [if_pos c] at h; cases h
      · rw [if_neg c] at h; exact n.own a (.inr ⟨j, h⟩)
  ev := n.ev.drop
  na := n.na.drop
  nd := List.nodup_nil
  nz := fun _ h => (nomatch h)
  dj := fun _ h => (nomatch h)
theorem fs_try {x n y : Str} {c : Value} {i j : Nat} {body : List Stmt} {np pos pos' p1 p2 p3 : Pos} {b : SM} {ks : List Nat} (hs : X.stack = X.env :: X.outer) (hf : X.env.frame = some X.env.locals) (hex : X.ex = []) (hN : X.N.Nodup) (hi : X.N[i]? = some n) (hln : X.env.kindOf n = some .local)
    (hj : X.N[j]? = some y) (hlj : X.env.kindOf y = some .local) (hc : Names X x c) (hks : ∀ k ∈ ks, PySem.W.exmOne X.K (T.cls k) c = some true) (il : i ∉ ln) (jl : j ∉ ln)
    (hb : ∀ (W : WX) (pn : List (Addr × Obj)) (xe : Value → Shared → Prop), Takes (X.tr pn xe) W → PassesOwn (model X.prog X.w) X.A X.env xe → PSs (X.tr pn xe) body (tS T W ln b))
    (hsw : swapsWith (.Name n p2) (some (.Name y p1)) p3.line X.env = pure false := by rfl) (hd1 : (n == ("__debug__" : Str)) = false := by decide) (hd2 : (n == ("__classdict__" : Str)) = false := by decide) :
    PS X (.Try body [.ExceptHandler (some (.Name x np)) (some n) [.Assign [.Name y p1] (.Name n p2) p3] pos'] [] [] pos) (tS T W ln (bTry i j ks b)) :=
  ps_imp (ps_try_mk hs hf hex hN hi hln hj hlj hc hsw hd1 hd2 hb) fun D σ H h => by
    obtain ⟨Z, F, ρ, E, na, q⟩ := of_tS h
    refine tS_of E na ?_
    unfold bTry at q
    cases e : b ρ with
    | nx ρ1 => rw [e] at q; exact q
    | bk ρ1 => rw [e] at q; exact q
    | ct ρ1 => rw [e] at q; exact q
    | rt d ρ1 => rw [e] at q; exact q
    | st => rw [e] at q; exact q
    | ex k p ρ1 =>
      rw [e] at q
      dsimp only at q
      split at q
      · rename_i ck
        intro σ' cc dd Z1 H1 F1 n hx kk
        obtain ⟨rfl, dx, w, rfl, hd, hw⟩ := hx
        refine ⟨hks k (by simpa using ck), dx, rfl, fun a ha => ?_⟩
        have n1 := n.lay (o := .ext (xcP (T.cls k) a dx)) (fun a h => (nomatch h)) ha
        have sm : Same H1 (upd H1 a (.ext (xcP (T.cls k) a dx))) := fun b u e => by rw [upd_ne (ne_of_none e ha)]; exact e
        have hv : Vd T Z1 (upd H1 a (.ext (xcP (T.cls k) a dx))) (.pl (.xc k p)) (.ref a) [] := by
          simp only [Vd, Vw]
          exact ⟨trivial, a, dx, w, rfl, upd_same, sm _ _ hd, Vw.mono (Same.kp sm _) (fun _ z => z) hw⟩
        obtain ⟨F2, n2⟩ := n1.set (i := i) hv rfl
        obtain ⟨F3, n3⟩ := n2.set (i := j) hv rfl
        exact q _ Z1 _ _ n3.drop (((kk.tr (.set il)).tr (.set jl)).tr (.set il))
      · exact q.elim
/-! ## err.value -/
def fVal (d : OD) : Option OD := match d with
  | .pl (.xc _ p) => some (.pl p)
  | _ => none
/-- what the classes of the errors must bear -/
structure XcR (K : PySem.W.Frag) (v : Value) : Prop where
  ref : ∃ D, v = .ref D ∧ ExcC K D ∧ PySem.W.findIn K (.ref D) "value" = some none
theorem pv_val {e : Expr} {m : VM} {pos : Pos} (hk : ∀ k, XcR X.K (T.cls k)) (he : PE X e (tV T m)) (hb : attributeBase e "value" X.env (eval e X.env) = eval e X.env := by rfl) : PE X (.Attribute e "value" pos) (tV T (v1 fVal m)) := by
  refine ⟨fun pins s σ H Q I h => ?_⟩
  obtain ⟨Z, F, ρ, d, E, e1, q⟩ := h
  unfold v1 at e1
  cases em : m ρ with
  | none => rw [em] at e1; cases e1
  | some d0 =>
    rw [em] at e1
    simp only [Option.bind_some] at e1
    unfold fVal at e1
    split at e1
    · rename_i k p
      cases e1
      refine attr_of hb (thn (he.run pins s σ H (fun v H1 => ∃ Z' B, Ny T Z H [] Z' H1 (.pl (.xc k p)) v B) I ⟨Z, F, ρ, _, E, em, fun v Z' H' B n => ⟨Z', B, n⟩⟩) fun u s1 hh => ?_)
      obtain ⟨x, H1, I1, rx, Z1, B1, n⟩ := hh
      have hv := n.vd
      simp only [Vd, Vw] at hv
      obtain ⟨rfl, a, dx, w, rfl, ha, hd, hw⟩ := hv
      obtain rfl : u = Value.ref a := rx
      obtain ⟨D, eD, C, noV⟩ := (hk k).ref
      have hx : ObjOk X.prog X.w H1 s1.heap dx (.xd [(("value" : Str), w)]) := I1.hok dx _ hd
      obtain ⟨mA, hns, hr⟩ := hx
      obtain ⟨od, ho, hl⟩ := lookIn_ns hns
      obtain ⟨u, hu, ru⟩ := RelO.some_of (v := w) (o := mA "value") (by have := hr "value"; simpa [List.lookup] using this)
      have hxa : ObjOk X.prog X.w H1 s1.heap a (.ext (xcP (T.cls k) a dx)) := I1.hok a _ ha
      obtain ⟨⟨oe, vs, ho2, hc, hdd, hdt⟩, _, _⟩ := hxa
      have J : PySem.W.InstAt s1.heap a oe D (some od) := ⟨ho2, by rw [hc, eD], by unfold PySem.W.notCls; rw [hdt] <;> rfl, by rw [hdd]; exact ho⟩
      refine HandSPX.exc_get I1.kIn J C.hg C.hk C.hs (PySem.W.findObj_own C.hd noV rfl (by rw [hl, hu])) (handed_of ru) ⟨w, H1, I1.tok _, ru, q w Z1 H1 [] ⟨n.same, n.up, n.dn, fun _ m => (nomatch m), List.nodup_nil, fun _ m => (nomatch m), ?_, n.zx⟩⟩
      simp only [Vd]
      exact ⟨trivial, hw⟩
    · cases e1
/-! ## isinstance(err, X) -/
def fIsX (t : Nat → Bool) (d : OD) : Option OD := match d with
  | .pl (.xc k _) => some (.pl (.bl (t k)))
  | _ => none
/-- e an error, c its class: isinstance(e, c2) -/
def rIsX (K : PySem.W.Frag) : List V → Hp → VK → Prop := fun xs H Q => ∃ (a D C' dx : Addr) (b : Bool), xs = [.ref a, .ref C'] ∧ H a = some (.ext (xcP (.ref D) a dx)) ∧ (∃ fs, H dx = some (.xd fs)) ∧ ExcC K D ∧ PySem.W.kitOne K (.ref D) (.ref C') = some b ∧ Q (.bl b) H
theorem call_isx : CallR X (.builtin "isinstance") (rIsX X.K) := by
  intro pins s σ H xs us Q I r h
  obtain ⟨a, D, C', dx, b, rfl, ha, ⟨fs, hd⟩, C, e, q⟩ := h
  cases r with
  | cons rx rr =>
    cases rr with
    | cons rt rr =>
      cases rr
      cases rx
      cases rt
      have hx : ObjOk X.prog X.w H s.heap dx (.xd fs) := I.hok dx _ hd
      obtain ⟨mA, hns, hr⟩ := hx
      obtain ⟨od, ho, hl⟩ := lookIn_ns hns
      have hxa : ObjOk X.prog X.w H s.heap a (.ext (xcP (.ref D) a dx)) := I.hok a _ ha
      obtain ⟨⟨oe, vs, ho2, hc, hdd, hdt⟩, _, _⟩ := hxa
      have J : PySem.W.InstAt s.heap a oe D (some od) := ⟨ho2, hc, by unfold PySem.W.notCls; rw [hdt] <;> rfl, by rw [hdd]; exact ho⟩
      have hcl : (PySem.W.clsIn X.K D).isSome = true := by
        obtain ⟨cd, hc, _⟩ := PySem.W.any_some C.hd
        rw [hc]; rfl
      exact PySem.W.kia_one (PySem.W.kitx_exc hcl C.hg C.hk C.hs C.ha C.hn C.ht C.hm) I.kIn J e (fun z => nomatch z) fun tk => ⟨.bl b, H, I.kept (t' := tk) fun _ _ z => z, rfl, q⟩
theorem pv_isx {e : Expr} {m : VM} {cn : Str} {C' : Addr} {p p2 pos : Pos} {t : Nat → Bool} (he : PE X e (tV T m)) (hg : Gl X "isinstance") (hm : X.mg "isinstance" = none) (hgc : Gl X cn) (hmc : X.mg cn = some (.ref C')) (ht : ∀ k, ∃ D, T.cls k = .ref D ∧ ExcC X.K D ∧ PySem.W.kitOne X.K (.ref D) (.ref C') = some (t k)) (hdc : (cn == ("__debug__" : Str)) = false := by decide)
    (h1 : starEach [e, .Name cn p2] X.env = (false, eval e X.env) :: starEach [.Name cn p2] X.env := by rfl) (h2 : starEach [.Name cn p2] X.env = (false, eval (.Name cn p2) X.env) :: starEach [] X.env := by rfl) (hpl : (backTo pos (starEach [.Name cn p2] X.env)).any (·.1) = false := by rfl) :
    PE X (.Call (.Name "isinstance" p) [e, .Name cn p2] [] pos) (tV T (v1 (fIsX t) m)) :=
  pe_imp (pe_callB call_isx hg hm (by decide +kernel) (pa_cons he (pa_cons (pe_glob (v := .ref C') hgc hmc (by rfl) hdc) pa_nil h2) h1) (by decide) (by decide) h1 hpl) fun σ H Q q => by
    obtain ⟨Z, F, ρ, d, E, e1, q⟩ := q
    unfold v1 at e1
    cases em : m ρ with
    | none => rw [em] at e1; cases e1
    | some d0 =>
      rw [em] at e1
      simp only [Option.bind_some] at e1
      unfold fIsX at e1
      split at e1
      · rename_i k p
        cases e1
        refine ⟨Z, F, ρ, _, E, em, fun v Z' H' B n => ?_⟩
        have hv := n.vd
        simp only [Vd, Vw] at hv
        obtain ⟨rfl, a, dx, w, rfl, ha, hd, hw⟩ := hv
        obtain ⟨D, eD, C, hk⟩ := ht k
        rw [eD] at ha
        exact ⟨a, D, C', dx, t k, rfl, ha, ⟨_, hd⟩, C, hk, q _ Z' H' [] ⟨n.same, n.up, n.dn, fun _ m => (nomatch m), List.nodup_nil, fun _ m => (nomatch m), by simp only [Vd, Vw]; exact ⟨trivial, trivial⟩, n.zx⟩⟩
      · cases e1
end
end Rq
end

section
set_option Elab.async false
set_option linter.all false
set_option maxRecDepth 100000
set_option maxHeartbeats 1000000
namespace Rq
open PySem PySem.Spec PyProof.Rows L2

/-! ## a comprehension's list at D while it grows -/
structure LcA (T : Tb) (Z1 : Addr → Prop) (H1 : Hp) (D : Addr) (acc : List OD) (Z' : Addr → Prop) (H' : Hp) : Prop where
  ex : ∃ xs B, H' D = some (.lst xs) ∧ VdL T Z' H' acc xs B ∧ B.Nodup ∧ D ∉ B ∧ ∀ a ∈ B, H1 a = none ∧ ¬ Z' a
  same : Same H1 H'
  up : ∀ a, Z1 a → Z' a
  dn : ∀ a, Z' a → Z1 a ∨ H1 a = none
  nD : ¬ Z' D
  zx : Zx Z' H'
  na : noAlL acc = true
  hD : H1 D = none
section
variable {T : Tb} {Z1 Z' Z2 : Addr → Prop} {H1 H' H2 : Hp} {D : Addr} {acc : List OD} {ρ : En} {σ : L2.St} {F : Nat → List Addr} {d : OD} {v : V} {B : List Addr}
theorem LcA.init (hD : H1 D = none) (zx : Zx Z1 H1) : LcA T Z1 H1 D [] Z1 (upd H1 D (.lst [])) where
  ex := ⟨[], [], upd_same, by simp only [VdL]; exact ⟨trivial, trivial⟩, List.nodup_nil, fun m => (nomatch m), fun _ m => (nomatch m)⟩
  same := fun b o e => by rw [upd_ne (ne_of_none e hD)]; exact e
  up := fun _ z => z
  dn := fun _ z => .inl z
  nD := fun z => by
    obtain ⟨o, e⟩ := zx D z
    rw [hD] at e; cases e
  zx := fun a z => by
    obtain ⟨o, e⟩ := zx a z
    exact ⟨o, by rw [upd_ne (ne_of_none e hD)]; exact e⟩
  na := rfl
  hD := hD
theorem LcA.there (A : LcA T Z1 H1 D acc Z' H') : ∃ xs, H' D = some (.lst xs) ∧ xs.length = acc.length := by
  obtain ⟨xs, B, h, v, _⟩ := A.ex
  exact ⟨xs, h, v.len⟩
theorem LcA.step (A : LcA T Z1 H1 D acc Z' H') (sm : Same H' H2) (up : ∀ a, Z' a → Z2 a) (dn : ∀ a, Z2 a → Z' a ∨ H' a = none) (zx : Zx Z2 H2) : LcA T Z1 H1 D acc Z2 H2 where
  ex := by
    obtain ⟨xs, B, h, v, nd, nDB, fr⟩ := A.ex
    refine ⟨xs, B, sm _ _ h, VdL.same up sm v, nd, nDB, fun a m => ⟨(fr a m).1, fun z => ?_⟩⟩
    rcases dn a z with z | z
    · exact (fr a m).2 z
    · obtain ⟨ys, e⟩ := v.foot a m
      rw [z] at e; cases e
  same := A.same.trans sm
  up := fun a z => up a (A.up a z)
  dn := fun a z => by
    rcases dn a z with z | z
    · exact A.dn a z
    · exact .inr (A.same.free z)
  nD := fun z => by
    obtain ⟨xs, h, _⟩ := A.there
    rcases dn D z with z | z
    · exact A.nD z
    · rw [h] at z; cases z
  zx := zx
  na := A.na
  hD := A.hD
theorem LcA.ny (A : LcA T Z1 H1 D acc Z' H') (n : Ny T Z' H' [] Z2 H2 d v B) : LcA T Z1 H1 D acc Z2 H2 :=
  A.step n.same n.up (fun a z => (n.dn a z).imp_right fun z => z.elim (fun z => (nomatch z)) id) n.zx
theorem LcA.ev (A : LcA T Z1 H1 D acc Z' H') (E : Ev T Z1 H1 ρ σ F) : Ev T Z' H' ρ σ F := E.same A.same A.up (fun a z => (A.dn a z).imp_right fun z i m => by
  obtain ⟨xs, e⟩ := E.foot m
  rw [z] at e; cases e) A.zx
theorem LcA.app (A : LcA T Z1 H1 D acc Z' H') (n : Ny T Z' H' [] Z2 H2 d v B) (nd : d.noAl = true) : ∃ xs, H2 D = some (.lst xs) ∧ xs.length = acc.length ∧ LcA T Z1 H1 D (acc ++ [d]) Z2 (upd H2 D (.lst (xs ++ [v]))) := by
  have A2 := A.ny n
  obtain ⟨xs, C, h', w', ndC, nDC, fr'⟩ := A.ex
  have h := n.same _ _ h'
  have w := VdL.same n.up n.same w'
  have f5 : ∀ a ∈ B, H' a = none := fun a m => (n.fr a m).elim (fun z => (nomatch z)) id
  have nDB : D ∉ B := fun m => by
    have z := f5 D m
    rw [h'] at z; cases z
  refine ⟨xs, h, w.len, ⟨⟨xs ++ [v], C ++ B, upd_same, VdL.app (VdL.monoU A2.na w h A2.nD nDC) (VdL.one (Vd.monoU nd n.vd h A2.nD nDB)), List.nodup_append.mpr ⟨ndC, n.nd, fun a ha b hb e => ?_⟩, fun m => (List.mem_append.mp m).elim nDC nDB, fun a m => ?_⟩, fun b o e => ?_, A2.up, A2.dn, A2.nD, fun a z => ?_, by rw [noAlL_app, A2.na]; simp [noAlL, nd], A.hD⟩⟩
  · subst e
    have z := f5 a hb
    obtain ⟨ys, e⟩ := w'.foot a ha
    rw [z] at e; cases e
  · rcases List.mem_append.mp m with m | m
    · refine ⟨(fr' a m).1, fun z => ?_⟩
      rcases n.dn a z with z | z | z
      · exact (fr' a m).2 z
      · exact nomatch z
      · obtain ⟨ys, e⟩ := w'.foot a m
        rw [z] at e; cases e
    · exact ⟨A.same.free (f5 a m), n.nz a m⟩
  · rw [upd_ne (fun q => by rw [q, A.hD] at e; cases e)]
    exact A2.same _ _ e
  · obtain ⟨o, e⟩ := A2.zx a z
    exact ⟨o, by rw [upd_ne (by intro q; subst q; exact A2.nD z)]; exact e⟩
theorem LcA.done {Z : Addr → Prop} {H : Hp} (A : LcA T Z1 H1 D acc Z' H') (sm : Same H H1) (up : ∀ a, Z a → Z1 a) (dn : ∀ a, Z1 a → Z a ∨ H a = none) : ∃ B, Ny T Z H [] Z' H' (.ol acc) (.ref D) B := by
  obtain ⟨xs, B, h, w, nd, nDB, fr⟩ := A.ex
  refine ⟨D :: B, sm.trans A.same, fun a z => A.up a (up a z), fun a z => ?_, fun a m => ?_, List.nodup_cons.mpr ⟨nDB, nd⟩, fun a m => ?_, ?_, A.zx⟩
  · rcases A.dn a z with z | z
    · exact (dn a z).imp_right .inr
    · exact .inr (.inr (sm.free z))
  · rcases List.mem_cons.mp m with rfl | m
    · exact .inr (sm.free A.hD)
    · exact .inr (sm.free (fr a m).1)
  · rcases List.mem_cons.mp m with rfl | m
    · exact A.nD
    · exact (fr a m).2
  · simp only [Vd]
    exact ⟨D, xs, B, rfl, rfl, h, w⟩
theorem LcA.kp (A : LcA T Z1 H1 D acc Z' H') {ys : List V} : Kp Z' H' (upd H' D (.lst ys)) := fun a o e c => by
  rw [upd_ne]
  · exact e
  · intro q
    subst q
    rcases c with c | c
    · exact A.nD c
    · obtain ⟨xs, h, _⟩ := A.there
      rw [h] at e; cases e; exact c
theorem Kp.tr {Z Z' : Addr → Prop} {H H' H'' : Hp} (a : Kp Z H H') (b : Kp Z' H' H'') (i : ∀ x, Z x → Z' x) : Kp Z H H'' := fun x o e c => b x o (a x o e c) (c.imp_left (i x))
/-! ## two fors -/
/-- what an inner for walks: numbers, or what is frozen -/
def tIK (T : Tb) (s : En → Option (List PD)) : TI := fun σ H R => ∃ Z F ρ l, Ev T Z H ρ σ F ∧ s ρ = some l ∧
  ∀ J Z' H', Same H H' → (∀ a, Z a → Z' a) → (∀ a, Z' a → Z a ∨ H a = none) → Zx Z' H' → Src T (Kp Z' H') J Z' (plL l) → l.length ≤ sizeLine → R J H'
def sSeqK (m : VM) : En → Option (List PD) := fun ρ => match m ρ with
  | some (.pl p) => p.kids
  | _ => none
def sR1K (m : VM) : En → Option (List PD) := fun ρ => match m ρ with
  | some (.pl (.int j)) => if rOk j = true then some (rngP 0 j.toNat) else none
  | _ => none
def sR2K (m m2 : VM) : En → Option (List PD) := fun ρ => match m ρ, m2 ρ with
  | some (.pl (.int i)), some (.pl (.int j)) => if rOk i = true ∧ rOk j = true ∧ decide (j - i ≤ 16777216) = true then some (rngP i (j - i).toNat) else none
  | _, _ => none
theorem pik_seq {X : Cx} {tg e : Expr} {m : VM} (hl : PE X e (tV T m)) : PI X tg e (tIK T (sSeqK m)) := pi_imp (pi_sq hl) fun σ H R q => by
  obtain ⟨Z, F, ρ, l, E, e1, q⟩ := q
  unfold sSeqK at e1
  split at e1
  · rename_i p e2
    refine ⟨Z, F, ρ, _, E, e2, fun v Z' H' B n => ?_⟩
    have hv := n.vd
    simp only [Vd] at hv
    obtain ⟨a, xs, ev, rd, ww⟩ := hv.2.kids e1
    have dn : ∀ a, Z' a → Z a ∨ H a = none := fun a z => (n.dn a z).imp_right fun z => z.elim (fun z => (nomatch z)) id
    refine ⟨a, xs, ev, ?_⟩
    rcases rd with ⟨rd, z⟩ | rd
    · exact .inl ⟨sqL_rd rd, q _ Z' H' n.same n.up dn n.zx (src_l (fun H1 k => sqL_rd (k.rd z rd)) fun H1 k => VwL.pl (VwL.mono k (fun _ z => z) ww)) ∘ (fun (z : xs.length ≤ sizeLine) => by rw [← plL_len, ← (VwL.pl ww).len]; exact z)⟩
    · exact .inr ⟨sqT_rd rd, q _ Z' H' n.same n.up dn n.zx (src_t (fun H1 k => sqT_rd (k.rdT rd)) fun H1 k => VwL.pl (VwL.mono k (fun _ z => z) ww)) ∘ (fun (z : xs.length ≤ sizeLine) => by rw [← plL_len, ← (VwL.pl ww).len]; exact z)⟩
  · cases e1
theorem pik_r1 {X : Cx} {tg e : Expr} {m : VM} {p pos : Pos} (hl : PE X e (tV T m)) (hg : Gl X "range") (hm : X.mg "range" = none) (hs : starEach [e] X.env = [(false, eval e X.env)] := by rfl)
    (hs2 : starEach [e] X.env = (false, eval e X.env) :: starEach [] X.env := by rfl) : PI X tg (.Call (.Name "range" p) [e] [] pos) (tIK T (sR1K m)) := pi_imp (pi_range1 hg hm (pa_cons hl pa_nil hs2) hs) fun σ H R q => by
  obtain ⟨Z, F, ρ, l, E, e1, q⟩ := q
  unfold sR1K at e1
  split at e1
  · rename_i j e2
    split at e1
    · rename_i c
      cases e1
      refine ⟨Z, F, ρ, _, E, e2, fun v Z' H' B n => ?_⟩
      obtain ⟨b1, b2⟩ := rOk_iff c
      refine ⟨j, by rw [int_of n.vd], b1, b2, q _ Z' H' n.same n.up (fun a z => (n.dn a z).imp_right fun z => z.elim (fun z => (nomatch z)) id) n.zx src_r (rOk_len0 c)⟩
    · cases e1
  · cases e1
theorem pik_r2 {X : Cx} {tg e e' : Expr} {m m2 : VM} {p pos : Pos} (hl : PE X e (tV T m)) (hl2 : PE X e' (tV T m2)) (hg : Gl X "range") (hm : X.mg "range" = none) (hs : starEach [e, e'] X.env = [(false, eval e X.env), (false, eval e' X.env)] := by rfl) (hs2 : starEach [e'] X.env = [(false, eval e' X.env)] := by rfl)
    (hs3 : starEach [e, e'] X.env = (false, eval e X.env) :: starEach [e'] X.env := by rfl) (hs4 : starEach [e'] X.env = (false, eval e' X.env) :: starEach [] X.env := by rfl) :
    PI X tg (.Call (.Name "range" p) [e, e'] [] pos) (tIK T (sR2K m m2)) := pi_imp (pi_range2 hg hm (pa_cons hl (pa_cons hl2 pa_nil hs4) hs3) hs hs2) fun σ H R q => by
  obtain ⟨Z, F, ρ, l, E, e1, q⟩ := q
  unfold sR2K at e1
  split at e1
  · rename_i i j e2 e3
    split at e1
    · rename_i c
      cases e1
      refine ⟨Z, F, ρ, _, E, e2, fun v Z1 H1 B1 n => ?_⟩
      refine ⟨Z1, F, ρ, _, n.ev E (fun _ m => (nomatch m)), e3, fun v2 Z2 H2 B2 n2 => ?_⟩
      obtain ⟨b1, b2⟩ := rOk_iff c.1
      obtain ⟨b3, b4⟩ := rOk_iff c.2.1
      have w1 := int_of n.vd
      have w2 := int_of n2.vd
      subst w1; subst w2
      refine ⟨i, j, rfl, ⟨b1, b2, b3, b4⟩, q _ Z2 H2 (n.same.trans n2.same) (fun a z => n2.up a (n.up a z)) (fun a z => ?_) n2.zx src_r (rOk_len c.1 c.2.1 c.2.2)⟩
      rcases n2.dn a z with z | z | z
      · exact (n.dn a z).imp_right fun z => z.elim (fun z => (nomatch z)) id
      · exact nomatch z
      · exact .inr (n.same.free z)
    · cases e1
  · cases e1
def noAE : En → Bool
  | [] => true
  | some d :: r => d.noAl && noAE r
  | none :: r => noAE r
theorem noAE_ok : ∀ {ρ : En}, noAE ρ = true → NoA ρ
  | [], h, i, d, e => by simp at e
  | some d0 :: r, h, 0, d, e => by
    simp only [noAE, Bool.and_eq_true] at h
    simp at e; subst e; exact h.1
  | none :: r, h, 0, d, e => by simp at e
  | some d0 :: r, h, i + 1, d, e => by
    simp only [noAE, Bool.and_eq_true] at h
    exact noAE_ok h.2 i d (by simpa using e)
  | none :: r, h, i + 1, d, e => by
    simp only [noAE] at h
    exact noAE_ok h i d (by simpa using e)
theorem Ev.but {Z Z' : Addr → Prop} {H H' : Hp} (E : Ev T Z H ρ σ F) (na : NoA ρ) (k : ∀ a o, H a = some o → (Z a ∨ (∃ i, a ∈ F i) ∨ notLst o) → H' a = some o) (up : ∀ a, Z a → Z' a) (dn : ∀ a, Z' a → Z a ∨ ∀ i, a ∉ F i) (zx : Zx Z' H') : Ev T Z' H' ρ σ F where
  at_ := fun i d e => by
    obtain ⟨v, e1, q⟩ := E.at_ i d e
    exact ⟨v, e1, Vd.mono (B := []) up (na i d e) (fun a o e c => k a o e (c.imp_right fun c => c.imp_left fun c => ⟨i, c⟩)) q⟩
  no := E.no
  nd := E.nd
  dj := E.dj
  nz := fun i a m z => (dn a z).elim (E.nz i a m) fun n => n i m
  ln := E.ln
  zx := zx
def lc2All (g : OD → En → Option En) (c : VM) (s1 : En → Option (List PD)) (g1 : OD → En → Option En) (c1 e : VM) (vs1 : List Nat) (ρ0 : En) : List OD → Option (List OD)
  | [] => some []
  | d :: l => match g d ρ0 with
    | none => none
    | some ρ1 => match c ρ1 with
      | some (.pl (.bl t)) => if t = true then (if noAE ρ1 = true then (match s1 ρ1 with
          | none => none
          | some l1 => match lcAll g1 c1 e (wipeE ρ1 vs1) (plL l1) with
            | none => none
            | some xs => match lc2All g c s1 g1 c1 e vs1 ρ0 l with
              | none => none
              | some r => some (xs ++ r)) else none) else lc2All g c s1 g1 c1 e vs1 ρ0 l
      | _ => none
def vLc2 (s : En → Option (List OD)) (g : OD → En → Option En) (c : VM) (s1 : En → Option (List PD)) (g1 : OD → En → Option En) (c1 e : VM) (vs vs1 : List Nat) : VM := fun ρ => match s ρ with
  | none => none
  | some l => match lc2All g c s1 g1 c1 e vs1 (wipeE ρ vs) l with
    | none => none
    | some r => if r.length ≤ 16777216 then some (.ol r) else none
theorem t_lc2 {s : En → Option (List OD)} {s1 : En → Option (List PD)} {g g1 : OD → En → Option En} {c c1 e : VM} {vs vs1 : List Nat} {σ : L2.St} {H : Hp} {Q : VK} (sub : ∀ i ∈ vs1, i ∈ vs) (h : tV T (vLc2 s g c s1 g1 c1 e vs vs1) σ H Q) :
    tLc2 (tIV T s) (tG T vs g) (tB (tV T c)) (tIK T s1) (tG T vs1 g1) (tB (tV T c1)) (tV T e) vs vs1 σ H Q := by
  obtain ⟨Z, F, ρ, d, E, e1, q⟩ := h
  unfold vLc2 at e1
  cases es : s ρ with
  | none => rw [es] at e1; cases e1
  | some l =>
    rw [es] at e1
    dsimp only at e1
    cases el : lc2All g c s1 g1 c1 e vs1 (wipeE ρ vs) l with
    | none => rw [el] at e1; cases e1
    | some ys =>
      rw [el] at e1
      dsimp only at e1
      split at e1
      · rename_i hys
        cases e1
        refine ⟨Z, F, ρ, l, E, es, fun J Z1 H1 sm up dn zx sr hlen => ?_⟩
        intro D hD
        have E1 : Ev T Z1 H1 ρ σ F := E.same sm up (fun a z => (dn a z).imp_right fun z i m => by
          obtain ⟨xs, e⟩ := E.foot m
          rw [z] at e; cases e) zx
        obtain ⟨F0, E0, f0⟩ := E1.wipe vs
        refine ⟨fun i mm H' => mm = l.length - i ∧ i ≤ l.length ∧ ∃ Z' acc rest, LcA T Z1 H1 D acc Z' H' ∧ lc2All g c s1 g1 c1 e vs1 (wipeE ρ vs) (l.drop i) = some rest ∧ ys = acc ++ rest,
          ⟨_, rfl, Nat.zero_le _, Z1, [], ys, LcA.init hD zx, el, rfl⟩, ?_⟩
        rintro i mm H' ⟨em, hi, Z', acc, rest, A, er, ey⟩
        obtain ⟨hstop, hgo⟩ := sr H' A.same
        by_cases hl : i < l.length
        · right
          obtain ⟨di, hp⟩ : ∃ p, l[i]? = some p := ⟨_, List.getElem?_eq_getElem hl⟩
          obtain ⟨go, yl⟩ := hgo i _ hp
          have ed : l.drop i = di :: l.drop (i + 1) := by
            rw [List.drop_eq_getElem_cons hl]
            congr 1
            exact Option.some.inj ((List.getElem?_eq_getElem hl).symm.trans hp)
          rw [ed] at er
          unfold lc2All at er
          refine ⟨go, fun H2 => i + 1 ≤ l.length ∧ ∃ Z' acc rest, LcA T Z1 H1 D acc Z' H2 ∧ lc2All g c s1 g1 c1 e vs1 (wipeE ρ vs) (l.drop (i + 1)) = some rest ∧ ys = acc ++ rest,
            fun H2 hh => ⟨l.length - (i + 1), by omega, rfl, hh⟩, fun x H2 hy => ?_⟩
          obtain ⟨sm2, hv⟩ := yl x H2 hy
          have A2 := A.step sm2 (fun _ z => z) (fun _ z => .inl z) (fun a z => let ⟨o, e⟩ := A.zx a z; ⟨o, sm2 a o e⟩)
          cases eg : g di (wipeE ρ vs) with
          | none => rw [eg] at er; cases er
          | some ρ1 =>
            rw [eg] at er
            dsimp only at er
            refine ⟨Z', F0, _, di, ρ1, A2.ev E0, Vd.same A.up (fun _ _ e => e) hv, eg, fun σ3 F3 E3 f3 n3 k3 l3 => ⟨(wipe_eq k3 l3).trans wipe_wipe, ?_⟩⟩
            split at er
            · rename_i t ec
              refine ⟨Z', F3, ρ1, .pl (.bl t), E3, ec, fun v Z4 H4 B4 n4 => ⟨t, bl_of n4.vd, ?_⟩⟩
              have A4 := A2.ny n4
              have E4 := n4.ev E3 (fun _ m => (nomatch m))
              cases t with
              | false =>
                simp only [Bool.false_eq_true, if_false] at er ⊢
                exact ⟨hl, Z4, acc, rest, A4, er, ey⟩
              | true =>
                simp only [if_true] at er ⊢
                by_cases cna : noAE ρ1 = true
                · rw [if_pos cna] at er
                  cases es1 : s1 ρ1 with
                  | none => rw [es1] at er; cases er
                  | some l1 =>
                    rw [es1] at er
                    dsimp only at er
                    cases el1 : lcAll g1 c1 e (wipeE ρ1 vs1) (plL l1) with
                    | none => rw [el1] at er; cases er
                    | some xs1 =>
                      rw [el1] at er
                      dsimp only at er
                      cases el2 : lc2All g c s1 g1 c1 e vs1 (wipeE ρ vs) (l.drop (i + 1)) with
                      | none => rw [el2] at er; cases er
                      | some r =>
                        rw [el2] at er
                        cases er
                        refine ⟨Z4, F3, ρ1, l1, E4, es1, fun J1 Z5 H5 sm5 up5 dn5 zx5 sr5 hlen5 => ?_⟩
                        have A5 := A4.step sm5 up5 dn5 zx5
                        have E5 : Ev T Z5 H5 ρ1 σ3 F3 := E4.same sm5 up5 (fun a z => (dn5 a z).imp_right fun z i m => by
                          obtain ⟨xs, e⟩ := E4.foot m
                          rw [z] at e; cases e) zx5
                        obtain ⟨F6, E6, f6⟩ := E5.wipe vs1
                        have DF : ∀ i, D ∉ F6 i := fun i m => by
                          obtain ⟨xs, e⟩ := E1.foot (f0 i D (f3 i D (f6 i D m)))
                          rw [hD] at e; cases e
                        have na6 := NoA.wipe (noAE_ok cna) vs1
                        refine ⟨fun j k H' => k = (plL l1).length - j ∧ j ≤ (plL l1).length ∧ ∃ Z' acc' rest1, LcA T Z1 H1 D acc' Z' H' ∧ (∀ a o, a ≠ D → H5 a = some o → H' a = some o) ∧ (∀ a, Z5 a → Z' a) ∧ (∀ a, Z' a → Z5 a ∨ H5 a = none) ∧ lcAll g1 c1 e (wipeE ρ1 vs1) ((plL l1).drop j) = some rest1 ∧ ys = acc' ++ (rest1 ++ r),
                          ⟨_, rfl, Nat.zero_le _, Z5, acc, xs1, A5, fun _ _ _ e => e, fun _ z => z, fun _ z => .inl z, el1, ey⟩, ?_⟩
                        rintro j k H7 ⟨ek, hj, Z7, acc7, rest7, A7, k7, u7, d7, er7, ey7⟩
                        have nl5 : ∀ {o : HO}, H5 D = some o → ¬ notLst o := fun {o} e n => by
                          obtain ⟨xs, h, _⟩ := A5.there
                          rw [h] at e; cases e; exact n
                        have kp7 : Kp Z5 H5 H7 := fun a o e c => k7 a o (fun q => by
                          subst q
                          exact c.elim A5.nD (nl5 e)) e
                        obtain ⟨hstop5, hgo5⟩ := sr5 H7 kp7
                        by_cases hl7 : j < (plL l1).length
                        · right
                          obtain ⟨dj, hp7⟩ : ∃ p, (plL l1)[j]? = some p := ⟨_, List.getElem?_eq_getElem hl7⟩
                          obtain ⟨go7, yl7⟩ := hgo5 j _ hp7
                          have ed7 : (plL l1).drop j = dj :: (plL l1).drop (j + 1) := by
                            rw [List.drop_eq_getElem_cons hl7]
                            congr 1
                            exact Option.some.inj ((List.getElem?_eq_getElem hl7).symm.trans hp7)
                          rw [ed7] at er7
                          unfold lcAll at er7
                          refine ⟨go7, fun H2 => j + 1 ≤ (plL l1).length ∧ ∃ Z' acc' rest1, LcA T Z1 H1 D acc' Z' H2 ∧ (∀ a o, a ≠ D → H5 a = some o → H2 a = some o) ∧ (∀ a, Z5 a → Z' a) ∧ (∀ a, Z' a → Z5 a ∨ H5 a = none) ∧ lcAll g1 c1 e (wipeE ρ1 vs1) ((plL l1).drop (j + 1)) = some rest1 ∧ ys = acc' ++ (rest1 ++ r),
                            fun H2 hh => ⟨(plL l1).length - (j + 1), by omega, rfl, hh⟩, fun x8 H8 hy8 => ?_⟩
                          obtain ⟨sm8, hv8⟩ := yl7 x8 H8 hy8
                          have A8 := A7.step sm8 (fun _ z => z) (fun _ z => .inl z) (fun a z => let ⟨o, e⟩ := A7.zx a z; ⟨o, sm8 a o e⟩)
                          have E8 : Ev T Z7 H8 (wipeE ρ1 vs1) (L2.wipe σ3 vs1) F6 := E6.but na6 (fun a o e c => sm8 _ _ (k7 a o (fun q => by
                            subst q
                            rcases c with c | ⟨i, c⟩ | c
                            · exact A5.nD c
                            · exact DF i c
                            · exact nl5 e c) e)) u7 (fun a z => (d7 a z).imp_right fun z i m => by
                              obtain ⟨xs, e⟩ := E6.foot m
                              rw [z] at e; cases e) A8.zx
                          cases eg1 : g1 dj (wipeE ρ1 vs1) with
                          | none => rw [eg1] at er7; cases er7
                          | some ρ2 =>
                            rw [eg1] at er7
                            dsimp only at er7
                            refine ⟨Z7, F6, _, dj, ρ2, E8, Vd.same u7 (fun _ _ e => e) hv8, eg1, fun σ9 F9 E9 f9 n9 k9 l9 => ⟨(wipe_eq k9 l9).trans wipe_wipe, ?_⟩⟩
                            split at er7
                            · rename_i t1 ec1
                              refine ⟨Z7, F9, ρ2, .pl (.bl t1), E9, ec1, fun v Z10 H10 B10 n10 => ⟨t1, bl_of n10.vd, ?_⟩⟩
                              have A10 := A8.ny n10
                              have dnn : ∀ {Zx Zy : Addr → Prop} {Hx Hy : Hp}, (∀ a, Zx a → Z5 a ∨ H5 a = none) → (∀ a o, a ≠ D → H5 a = some o → Hx a = some o) → Hx D ≠ none → (∀ a, Zy a → Zx a ∨ Hx a = none) → ∀ a, Zy a → Z5 a ∨ H5 a = none := fun {Zx Zy Hx Hy} p k nn q a z => by
                                rcases q a z with z | z
                                · exact p a z
                                · right
                                  cases e : H5 a with
                                  | none => rfl
                                  | some o =>
                                    by_cases ca : a = D
                                    · subst ca; exact absurd z nn
                                    · rw [k a o ca e] at z; cases z
                              have k8 : ∀ a o, a ≠ D → H5 a = some o → H8 a = some o := fun a o n e => sm8 _ _ (k7 a o n e)
                              have k10 : ∀ a o, a ≠ D → H5 a = some o → H10 a = some o := fun a o n e => n10.same _ _ (k8 a o n e)
                              have nn8 : H8 D ≠ none := by
                                obtain ⟨xs, h, _⟩ := A8.there
                                rw [h]; exact fun z => nomatch z
                              have nn10 : H10 D ≠ none := by
                                obtain ⟨xs, h, _⟩ := A10.there
                                rw [h]; exact fun z => nomatch z
                              have d10 : ∀ a, Z10 a → Z5 a ∨ H5 a = none := dnn (Hy := H10) d7 k8 nn8 (fun a z => (n10.dn a z).imp_right fun z => z.elim (fun z => (nomatch z)) id)
                              cases t1 with
                              | false =>
                                simp only [Bool.false_eq_true, if_false] at er7 ⊢
                                exact ⟨hl7, Z10, acc7, rest7, A10, k10, fun a z => n10.up a (u7 a z), d10, er7, ey7⟩
                              | true =>
                                simp only [if_true] at er7 ⊢
                                cases ee : e ρ2 with
                                | none => rw [ee] at er7; cases er7
                                | some d11 =>
                                  rw [ee] at er7
                                  dsimp only at er7
                                  by_cases na11 : d11.noAl = true
                                  · rw [if_pos na11] at er7
                                    cases e12 : lcAll g1 c1 e (wipeE ρ1 vs1) ((plL l1).drop (j + 1)) with
                                    | none => rw [e12] at er7; cases er7
                                    | some r12 =>
                                      rw [e12] at er7
                                      cases er7
                                      refine ⟨Z10, F9, ρ2, d11, n10.ev E9 (fun _ m => (nomatch m)), ee, fun y Z11 H11 B11 n11 => ?_⟩
                                      obtain ⟨xs, hx11, lx11, A12⟩ := A10.app n11 na11
                                      refine ⟨xs, hx11, ?_, hl7, Z11, acc7 ++ [d11], r12, A12, fun a o n e => ?_, fun a z => n11.up a (n10.up a (u7 a z)), dnn (Hy := H11) d10 k10 nn10 (fun a z => (n11.dn a z).imp_right fun z => z.elim (fun z => (nomatch z)) id), rfl, by rw [ey7]; simp⟩
                                      · rw [ey7] at hys
                                        simp only [List.length_append, List.length_cons] at hys
                                        rw [sizeLine_eq]
                                        omega
                                      · rw [upd_ne n]
                                        exact n11.same _ _ (k10 a o n e)
                                  · rw [if_neg na11] at er7; cases er7
                            · cases er7
                        · left
                          refine ⟨hstop5 j (by omega), hl, Z7, acc7, r, A7, by first | exact el2 | rfl, ?_⟩
                          rw [List.drop_eq_nil_of_le (by omega)] at er7
                          unfold lcAll at er7
                          cases er7
                          simpa using ey7
                · rw [if_neg cna] at er; cases er
            · cases er
        · left
          refine ⟨hstop i (by omega), ?_⟩
          rw [List.drop_eq_nil_of_le (by omega)] at er
          unfold lc2All at er
          cases er
          rw [List.append_nil] at ey
          subst ey
          obtain ⟨B, n⟩ := A.done sm up dn
          exact q (.ref D) Z' H' B n
      · cases e1
end
end Rq
end

section
set_option Elab.async false
set_option linter.all false
set_option maxRecDepth 100000
set_option maxHeartbeats 1000000
namespace Rq
open PySem PySem.Spec PyProof.Rows L2

section
variable {X : Cx} {T : Tb} {W : WX} {ln : List Nat}
theorem pv_lc2 {elt tg iter tg1 iter1 : Expr} {ifs ifs1 : List Expr} {scope : Scope} {own : List (Str × Nat)} {pos : Pos} {s : En → Option (List OD)} {s1 : En → Option (List PD)} {g g1 : OD → En → Option En} {c c1 e : VM} {vs vs1 : List Nat} (hvs : own.map (·.2) = vs) (hv1 : ∀ i ∈ vs1, i ∈ vs) (hc : X.calm = true) (hN : X.N.Nodup) (hi : PI X tg iter (tIV T s)) (ok : BlkOk X.N X.env.scope scope own)
    (hg : ∀ (s : Shared) (H : Hp) (C : Addr) (cl : List (Str × Addr)) (fp : List Addr), PG (X.blk s H scope (compEnvC scope cl C X.env) fp) tg (tG T vs g)) (ht : ∀ (s : Shared) (H : Hp) (C : Addr) (cl : List (Str × Addr)) (fp : List Addr), PTs (X.blk s H scope (compEnvC scope cl C X.env) fp) ifs (tB (tV T c)))
    (hi1 : ∀ (s : Shared) (H : Hp) (C : Addr) (cl : List (Str × Addr)) (fp : List Addr), PI (X.blk s H scope (compEnvC scope cl C X.env) fp) tg1 iter1 (tIK T s1))
    (hg1 : ∀ (s : Shared) (H : Hp) (C : Addr) (cl : List (Str × Addr)) (fp : List Addr), PG (X.blk s H scope (compEnvC scope cl C X.env) fp) tg1 (tG T vs1 g1)) (ht1 : ∀ (s : Shared) (H : Hp) (C : Addr) (cl : List (Str × Addr)) (fp : List Addr), PTs (X.blk s H scope (compEnvC scope cl C X.env) fp) ifs1 (tB (tV T c1)))
    (he : ∀ (s : Shared) (H : Hp) (C : Addr) (cl : List (Str × Addr)) (fp : List Addr), PE (X.blk s H scope (compEnvC scope cl C X.env) fp) elt (tV T e)) (hs : ∀ x, foldedSetIterable iter X.env x = pure x := by intro _; rfl) (hs1 : ∀ env x, foldedSetIterable iter1 env x = pure x := by intro _ _; rfl) :
    PE X (.ListComp elt [⟨tg, iter, ifs, 0⟩, ⟨tg1, iter1, ifs1, 0⟩] scope pos) (tV T (vLc2 s g c s1 g1 c1 e vs vs1)) :=
  pe_imp (by rw [← hvs] at hg hv1 ⊢; exact pe_lc2 hc hN hi ok hv1 hg ht hi1 hg1 ht1 he hs hs1) fun σ H Q q => t_lc2 hv1 q
/-! name = [..] on one line -/
theorem t_eV {m : VM} {σ : L2.St} {H : Hp} {Q : VK} (q : tE T W (eV m) σ H Q) : tV T m σ H Q := by
  obtain ⟨Z, F, ρ, E, na, q⟩ := q
  unfold eV at q
  cases e1 : m ρ with
  | none => rw [e1] at q; exact q.elim
  | some d =>
    rw [e1] at q
    dsimp only at q
    by_cases c : d.noAl = true
    · rw [if_pos c] at q
      exact ⟨Z, F, ρ, d, E, e1, fun v Z' H' B n => q v Z' H' F B (Ny.toNx E na n) n.vd c⟩
    · rw [if_neg c] at q
      exact q.elim
theorem fs_setLc {i : Nat} {y : Str} {py : Pos} {elt tg iter : Expr} {ifs : List Expr} {scope : Scope} {own : List (Str × Nat)} {pos spos : Pos} {s : En → Option (List OD)} {g : OD → En → Option En} {c e : VM} {vs : List Nat} (hvs : own.map (·.2) = vs) (hc : X.calm = true) (hN : X.N.Nodup) (hy : X.N[i]? = some y) (hyl : X.env.scope.names.lookup y = some .local) (hil : i ∉ ln)
    (hsw : swapsWith (.ListComp elt [⟨tg, iter, ifs, 0⟩] scope pos) (some (.Name y py)) spos.line X.env = pure true) (hi : PI X tg iter (tIV T s)) (ok : BlkOk X.N X.env.scope scope own)
    (hg : ∀ (s : Shared) (H : Hp) (C : Addr) (cl : List (Str × Addr)) (fp : List Addr), PG (X.blk s H scope (compEnvC scope cl C X.env) fp) tg (tG T vs g)) (ht : ∀ (s : Shared) (H : Hp) (C : Addr) (cl : List (Str × Addr)) (fp : List Addr), PTs (X.blk s H scope (compEnvC scope cl C X.env) fp) ifs (tB (tV T c)))
    (he : ∀ (s : Shared) (H : Hp) (C : Addr) (cl : List (Str × Addr)) (fp : List Addr), PE (X.blk s H scope (compEnvC scope cl C X.env) fp) elt (tV T e)) (hs : ∀ x, foldedSetIterable iter X.env x = pure x := by intro _; rfl) :
    PS X (.Assign [.Name y py] (.ListComp elt [⟨tg, iter, ifs, 0⟩] scope pos) spos) (tS T W ln (bSet i (eV (vLc s g c e vs)))) :=
  by
  subst hvs
  exact ps_imp (ps_setLc hc hN hy hyl hsw hi ok hg ht he hs) fun D σ H q => t_lc (t_eV (t_set hil D σ H q))
theorem fs_setLc2 {i : Nat} {y : Str} {py : Pos} {elt tg iter tg1 iter1 : Expr} {ifs ifs1 : List Expr} {scope : Scope} {own : List (Str × Nat)} {pos spos : Pos} {s : En → Option (List OD)} {s1 : En → Option (List PD)} {g g1 : OD → En → Option En} {c c1 e : VM} {vs vs1 : List Nat} (hvs : own.map (·.2) = vs) (hv1 : ∀ i ∈ vs1, i ∈ vs) (hc : X.calm = true) (hN : X.N.Nodup)
    (hy : X.N[i]? = some y) (hyl : X.env.scope.names.lookup y = some .local) (hil : i ∉ ln)
    (hsw : swapsWith (.ListComp elt [⟨tg, iter, ifs, 0⟩, ⟨tg1, iter1, ifs1, 0⟩] scope pos) (some (.Name y py)) spos.line X.env = pure true) (hi : PI X tg iter (tIV T s)) (ok : BlkOk X.N X.env.scope scope own)
    (hg : ∀ (s : Shared) (H : Hp) (C : Addr) (cl : List (Str × Addr)) (fp : List Addr), PG (X.blk s H scope (compEnvC scope cl C X.env) fp) tg (tG T vs g)) (ht : ∀ (s : Shared) (H : Hp) (C : Addr) (cl : List (Str × Addr)) (fp : List Addr), PTs (X.blk s H scope (compEnvC scope cl C X.env) fp) ifs (tB (tV T c)))
    (hi1 : ∀ (s : Shared) (H : Hp) (C : Addr) (cl : List (Str × Addr)) (fp : List Addr), PI (X.blk s H scope (compEnvC scope cl C X.env) fp) tg1 iter1 (tIK T s1))
    (hg1 : ∀ (s : Shared) (H : Hp) (C : Addr) (cl : List (Str × Addr)) (fp : List Addr), PG (X.blk s H scope (compEnvC scope cl C X.env) fp) tg1 (tG T vs1 g1)) (ht1 : ∀ (s : Shared) (H : Hp) (C : Addr) (cl : List (Str × Addr)) (fp : List Addr), PTs (X.blk s H scope (compEnvC scope cl C X.env) fp) ifs1 (tB (tV T c1)))
    (he : ∀ (s : Shared) (H : Hp) (C : Addr) (cl : List (Str × Addr)) (fp : List Addr), PE (X.blk s H scope (compEnvC scope cl C X.env) fp) elt (tV T e)) (hs : ∀ x, foldedSetIterable iter X.env x = pure x := by intro _; rfl) (hs1 : ∀ env x, foldedSetIterable iter1 env x = pure x := by intro _ _; rfl) :
    PS X (.Assign [.Name y py] (.ListComp elt [⟨tg, iter, ifs, 0⟩, ⟨tg1, iter1, ifs1, 0⟩] scope pos) spos) (tS T W ln (bSet i (eV (vLc2 s g c s1 g1 c1 e vs vs1)))) := by
  subst hvs
  exact ps_imp (ps_setLc2 hc hN hy hyl hsw hi ok hv1 hg ht hi1 hg1 ht1 he hs hs1) fun D σ H q => t_lc2 hv1 (t_eV (t_set hil D σ H q))
end
end Rq
end

section
set_option Elab.async false
set_option linter.all false
set_option maxRecDepth 100000
set_option maxHeartbeats 1000000
namespace Rq
open PySem PySem.Spec PyProof.Rows L2

section
variable {X : Cx} {T : Tb} {W : WX} {ln : List Nat} {Z Z1 : Addr → Prop} {H H1 : Hp} {F F1 : Nat → List Addr} {σ σ1 : L2.St} {ρ ρ1 : En} {v : V} {B B0 : List Addr} {d : OD} {ps : List PD} {xs : List V}
/-! ## is True, is False -/
def okV : V → Bool
  | .non => true
  | .bl _ => true
  | .int _ => true
  | .str _ => true
  | .ref _ => true
  | _ => false
def rIsT : R2 := fun x y H Q => ∃ b : Bool, y = .bl b ∧ okV x = true ∧ Q (.bl (decide (x = .bl b))) H
theorem op_isB : OpR X (compareOp .Is) rIsT := by
  intro pins s σ H x y v u Q I rx ry h
  obtain ⟨b, rfl, ok, q⟩ := h
  cases (show u = Value.bool b from ry)
  cases x with
  | bl c =>
    cases (show v = Value.bool c from rx)
    by_cases e : c = b
    · subst e
      exact wpAny_is_self rfl ⟨.bl true, H, I, rfl, by simpa using q⟩
    · exact wpAny_is_other rfl (fun z => e (Value.bool.inj z)) ⟨.bl false, H, I, rfl, by simpa [e] using q⟩
  | non => cases rx; exact wpAny_pure ⟨.bl false, H, I, rfl, q⟩
  | int i => obtain ⟨t, rfl⟩ := rx; exact wpAny_pure ⟨.bl false, H, I, rfl, q⟩
  | str i => obtain ⟨t, rfl⟩ := rx; exact wpAny_pure ⟨.bl false, H, I, rfl, q⟩
  | ref a => cases rx; exact wpAny_pure ⟨.bl false, H, I, rfl, q⟩
  | _ => cases ok
theorem okV_w {p : PD} (h : Vw T Z H p v) : okV v = true := by
  cases p with
  | bl c => simp only [Vw] at h; subst h; rfl
  | non => simp only [Vw] at h; subst h; rfl
  | int _ => simp only [Vw] at h; subst h; rfl
  | str _ => simp only [Vw] at h; subst h; rfl
  | fn _ => simp only [Vw] at h; subst h; rfl
  | lst _ => simp only [Vw] at h; obtain ⟨a, xs, rfl, _⟩ := h; rfl
  | tup _ => simp only [Vw] at h; obtain ⟨a, xs, rfl, _⟩ := h; rfl
  | xc _ _ => simp only [Vw] at h; obtain ⟨a, d, w, rfl, _⟩ := h; rfl
theorem okV_d (h : Vd T Z H d v B) : okV v = true := by
  cases d with
  | pl p => simp only [Vd] at h; exact okV_w h.2
  | ol l => simp only [Vd] at h; obtain ⟨a, xs, B', rfl, _⟩ := h; rfl
  | ot l => simp only [Vd] at h; obtain ⟨a, xs, rfl, _⟩ := h; rfl
  | al l => simp only [Vd] at h; obtain ⟨a, xs, rfl, _⟩ := h; rfl
def PD.isB (b : Bool) : PD → Bool
  | .bl c => c == b
  | _ => false
def fIsB : OD → OD → Option OD
  | .pl p, .pl (.bl b) => some (.pl (.bl (p.isB b)))
  | _, .pl (.bl _) => some (.pl (.bl false))
  | _, _ => none
theorem bl_iff {p : PD} {v : V} {b : Bool} (h : Vw T Z H p v) : decide (v = .bl b) = p.isB b := by
  cases p with
  | bl c => simp only [Vw] at h; subst h; cases b <;> cases c <;> rfl
  | non => simp only [Vw] at h; subst h; rfl
  | int _ => simp only [Vw] at h; subst h; rfl
  | str _ => simp only [Vw] at h; subst h; rfl
  | fn _ => simp only [Vw] at h; subst h; rfl
  | lst _ => simp only [Vw] at h; obtain ⟨a, xs, rfl, _⟩ := h; rfl
  | tup _ => simp only [Vw] at h; obtain ⟨a, xs, rfl, _⟩ := h; rfl
  | xc _ _ => simp only [Vw] at h; obtain ⟨a, d, w, rfl, _⟩ := h; rfl
theorem vd_refB {b : Bool} (h : Vd T Z H d v B) (n : ∀ p, d ≠ .pl p) : decide (v = .bl b) = false := by
  cases d with
  | pl p => exact absurd rfl (n p)
  | ol l => simp only [Vd] at h; obtain ⟨a, xs, B', rfl, _⟩ := h; rfl
  | ot l => simp only [Vd] at h; obtain ⟨a, xs, rfl, _⟩ := h; rfl
  | al l => simp only [Vd] at h; obtain ⟨a, xs, rfl, _⟩ := h; rfl
theorem o_isB : Op2 T rIsT fIsB := fun Z H v1 v2 d1 d2 d B1 B2 Q zx h1 h2 nd nz e q => by
  unfold fIsB at e
  split at e
  · rename_i p b
    cases e
    refine ⟨b, bl_of h2, okV_d h1, ?_⟩
    have w := h1
    simp only [Vd] at w
    rw [bl_iff w.2]
    exact q _ Z H [] (Ny.flat zx (vw_bl T Z H)) fun _ _ => rfl
  · rename_i x b n
    cases e
    refine ⟨b, bl_of h2, okV_d h1, ?_⟩
    rw [vd_refB h1 (fun p e => n p e)]
    exact q _ Z H [] (Ny.flat zx (vw_bl T Z H)) fun _ _ => rfl
  · cases e

/-! ## x[i] = e, x a list that its name alone holds -/
theorem VdL.put : ∀ {l : List OD} {xs : List V} {C : List Addr} {j : Nat} {d : OD} {v : V} {D : List Addr}, VdL T Z H l xs C → Vd T Z H d v D → (C ++ D).Nodup → j < l.length →
    ∃ G, VdL T Z H (l.set j d) (xs.set j v) G ∧ G.Nodup ∧ ∀ a ∈ G, a ∈ C ∨ a ∈ D
  | [], xs, C, j, d, v, D, h, hd, nd, hj => by simp at hj
  | d0 :: l, xs, C, 0, d, v, D, h, hd, nd, hj => by
    simp only [VdL] at h
    obtain ⟨x, r, B1, B2, rfl, rfl, s, q⟩ := h
    refine ⟨D ++ B2, ?_, ?_, fun a m => ?_⟩
    · simp only [List.set_cons_zero, VdL]
      exact ⟨v, r, D, B2, rfl, rfl, hd, q⟩
    · rw [List.append_assoc] at nd
      exact (List.perm_append_comm.nodup_iff).mp (List.nodup_append.mp nd).2.1
    · rcases List.mem_append.mp m with m | m
      · exact .inr m
      · exact .inl (List.mem_append_right _ m)
  | d0 :: l, xs, C, j + 1, d, v, D, h, hd, nd, hj => by
    simp only [VdL] at h
    obtain ⟨x, r, B1, B2, rfl, rfl, s, q⟩ := h
    rw [List.append_assoc] at nd
    have n2 := List.nodup_append.mp nd
    obtain ⟨G, g1, g2, g3⟩ := VdL.put (j := j) q hd n2.2.1 (by simpa using hj)
    refine ⟨B1 ++ G, ?_, ?_, fun a m => ?_⟩
    · simp only [List.set_cons_succ, VdL]
      exact ⟨x, _, B1, G, rfl, rfl, s, g1⟩
    · refine List.nodup_append.mpr ⟨n2.1, g2, fun a ha b hb e => ?_⟩
      subst e
      exact n2.2.2 a ha a (List.mem_append.mpr (g3 a hb)) rfl
    · rcases List.mem_append.mp m with m | m
      · exact .inl (List.mem_append_left _ m)
      · exact (g3 a m).imp_left (List.mem_append_right _)
theorem noAlL_set : ∀ {l : List OD} {j : Nat} {d : OD}, noAlL l = true → d.noAl = true → noAlL (l.set j d) = true
  | [], j, d, h, n => by simp [noAlL]
  | d0 :: l, 0, d, h, n => by
    simp only [noAlL, Bool.and_eq_true] at h
    simp [noAlL, n, h.2]
  | d0 :: l, j + 1, d, h, n => by
    simp only [noAlL, Bool.and_eq_true] at h
    simp [noAlL, h.1, noAlL_set h.2 n]
def bSto (i : Nat) (mi : VM) (me : EM) : SM := fun ρ => match me ρ with
  | .ok d ρ1 => (match mi ρ1, ρ1[i]? with
    | some (.pl (.int k)), some (some (.ol l)) => (match ixN l.length k with
      | some j => .nx (ρ1.set i (some (.ol (l.set j d))))
      | none => .st)
    | _, _ => .st)
  | .ex k p ρ1 => .ex k p ρ1
  | .st => .st
theorem fs_sto {i : Nat} {o ix e : Expr} {mi : VM} {me : EM} {p' pos : Pos} (ho : PE X o (tVar i)) (hi : PE X ix (tV T mi)) (he : PE X e (tE T W me)) (hs : swapsWithSole [.Subscript o ix p'] e pos.line X.env = pure false := by rfl) (hw : swappedStores [.Subscript o ix p'] e X.env = pure none := by rfl)
    (h1 : (assignEach [.Subscript o ix p'] X.env).map (·.2) = [assign (.Subscript o ix p') X.env] := by rfl)
    (ha : ∀ v, assign (.Subscript o ix p') X.env v = (do
      let ov ← holding [v] (eval o X.env)
      let iv ← holding [v, ov] (eval ix X.env)
      standAt p'
      holding [v, ov, iv] (setItem ov iv v)
      release [v, ov, iv] []) := by intro _; rfl) :
    PS X (.Assign [.Subscript o ix p'] e pos) (tS T W ln (bSto i mi me)) :=
  ps_imp (ps_asg he (pg_sub ho hi set_list ha) hs hw h1) fun D σ H h => by
    obtain ⟨Z, F, ρ, E, na, q⟩ := of_tS h
    refine tE_of E na ?_
    unfold bSto at q
    cases e1 : me ρ with
    | st => rw [e1] at q; exact q
    | ex k p ρ1 =>
      rw [e1] at q
      intro c dd Z' H' F' n hx
      exact q σ c dd Z' H' F' n hx .refl
    | ok d ρ1 =>
      rw [e1] at q
      intro v Z1 H1 F1 B1 n hv nd
      dsimp only at q
      split at q
      · rename_i k l em el
        split at q
        · rename_i j ej
          obtain ⟨a0, xs0, B0', es0, eF0, hx0, hl0, hi0⟩ := own_at n.ev el
          refine ⟨.ref a0, es0, Z1, F1, ρ1, _, n.ev, em, fun v2 Z2 H2 B2 n2 => ?_⟩
          have y : Ny T Z1 H1 B1 Z2 H2 (.pl (.int k)) v2 [] := ⟨n2.same, n2.up, fun a z => (n2.dn a z).imp_right fun z => z.elim (fun z => (nomatch z)) .inr, fun _ m => (nomatch m), List.nodup_nil, fun _ m => (nomatch m), by have := n2.vd; simp only [Vd] at this ⊢; exact ⟨trivial, this.2⟩, n2.zx⟩
          -- the value stands behind the index
          have hv2 : Vd T Z2 H2 d v B1 := hv.same n2.up n2.same
          have nzB : ∀ a ∈ B1, ¬ Z2 a := fun a m z => by
            rcases n2.dn a z with z | z | z
            · exact n.nz a m z
            · exact nomatch z
            · obtain ⟨ys, e⟩ := hv.foot a m
              rw [z] at e; cases e
          have n3 : Nx T Z H F Z2 H2 ρ1 σ F1 B1 := by
            have m := Ny.nx E n hv.foot y
            exact ⟨m.keep, m.dom, m.up, m.dn, fun a h => h.elim (fun h => n.own a (.inl h)) fun h => m.own a (.inr h), m.ev, m.na, n.nd, nzB, n.dj⟩
          obtain ⟨a, xs, B', es, eF, hx, hl, hi⟩ := own_at n3.ev el
          rw [es0] at es
          cases es
          have nl : noAlL l = true := n3.na i _ el
          have ndF : (a0 :: B').Nodup := eF ▸ n3.ev.nd i
          have ha : a0 ∈ F1 i := by rw [eF]; exact List.mem_cons_self
          have nza := n3.ev.nz i a0 ha
          have naB : a0 ∉ B1 := fun mb => n3.dj a0 mb i ha
          have naB' : a0 ∉ B' := (List.nodup_cons.mp ndF).1
          refine ⟨a0, xs, k, j, rfl, int_of n2.vd, hx, by rw [← ej, hl.len], ?_⟩
          have hj : j < l.length := (ixN_seq ej).2.1
          have ndBB : (B' ++ B1).Nodup := List.nodup_append.mpr ⟨(List.nodup_cons.mp ndF).2, n3.nd, fun x hx' y hy e => by
            subst e
            exact n3.dj x hy i (tail_mem eF hx')⟩
          obtain ⟨G, g1, g2, g3⟩ := VdL.put (j := j) (VdL.monoU (ys := xs.set j v) nl hl hx nza naB') (Vd.monoU (ys := xs.set j v) nd hv2 hx nza naB) ndBB hj
          have naG : a0 ∉ G := fun m => (g3 a0 m).elim naB' naB
          have hd : Vd T Z2 (upd H2 a0 (.lst (xs.set j v))) (.ol (l.set j d)) (.ref a0) (a0 :: G) := by
            simp only [Vd]
            exact ⟨a0, xs.set j v, G, rfl, rfl, upd_same, g1⟩
          obtain ⟨F2, n4⟩ := n3.write (i := i) (B2 := []) hv2.foot ha hx es0 hi hd (by simp only [OD.noAl]; exact noAlL_set nl nd) (fun b m => by
            rcases List.mem_cons.mp m with rfl | m
            · exact .inl ha
            · exact (g3 b m).imp_left (tail_mem eF)) (fun b m => (nomatch m)) (by
            rw [List.append_nil]
            exact List.nodup_cons.mpr ⟨naG, g2⟩)
          exact q σ Z2 _ F2 n4 .refl
        · exact q.elim
      · exact q.elim
end
end Rq
end

section
set_option Elab.async false
set_option linter.all false
set_option maxRecDepth 100000
set_option maxHeartbeats 1000000
namespace Rq
open PySem PySem.Spec PyProof.Rows L2

section
variable {X : Cx} {T : Tb} {W : WX} {ln : List Nat} {Z Z1 : Addr → Prop} {H H1 : Hp} {F F1 : Nat → List Addr} {σ σ1 : L2.St} {ρ ρ1 : En} {v : V} {B B0 : List Addr} {d : OD} {ps : List PD} {xs : List V}
/-! ## a, b = x, y -/
def bPar (i j : Nat) (as : List Ag) : SM := fun ρ => match evA as ρ with
  | .ok [d1, d2] ρ1 => .nx ((ρ1.set i (some d1)).set j (some d2))
  | .ok _ _ => .st
  | .ex k p ρ1 => .ex k p ρ1
  | .st => .st
theorem Nx.set2 {d1 d2 : OD} {v1 v2 : V} {B1 B2 : List Addr} {i j : Nat} (n : Nx T Z H F Z1 H1 ρ1 σ1 F1 (B1 ++ B2)) (h1 : Vd T Z1 H1 d1 v1 B1) (h2 : Vd T Z1 H1 d2 v2 B2) (n1 : d1.noAl = true) (n2 : d2.noAl = true) (hi : i < ρ1.length) (hj : j < ρ1.length) :
    ∃ F2, Nx T Z H F Z1 H1 ((ρ1.set i (some d1)).set j (some d2)) ((σ1.set i (some v1)).set j (some v2)) F2 [] := by
  have nn := List.nodup_append.mp n.nd
  have E1 := n.ev.set hi h1 nn.1 (fun a m => n.nz a (List.mem_append_left _ m)) (fun a m => n.dj a (List.mem_append_left _ m))
  have E2 := E1.set (i := j) (by simpa using hj) h2 nn.2.1 (fun a m => n.nz a (List.mem_append_right _ m)) (fun a m k mk => by
    unfold updF at mk
    by_cases c : k = i
    · rw [if_pos c] at mk
      exact nn.2.2 a mk a m rfl
    · rw [if_neg c] at mk
      exact n.dj a (List.mem_append_right _ m) k mk)
  refine ⟨_, n.keep, n.dom, n.up, n.dn, fun a m => ?_, E2, (n.na.set n1).set n2, List.nodup_nil, fun _ h => (nomatch h), fun _ h => (nomatch h)⟩
  rcases m with m | ⟨k, m⟩
  · exact nomatch m
  · unfold updF at m
    by_cases c : k = j
    · rw [if_pos c] at m
      exact n.own a (.inl (List.mem_append_right _ m))
    · rw [if_neg c] at m
      by_cases c' : k = i
      · rw [if_pos c'] at m
        exact n.own a (.inl (List.mem_append_left _ m))
      · rw [if_neg c'] at m
        exact n.own a (.inr ⟨k, m⟩)
theorem fs_par {i j : Nat} {x y : Str} {a b : Expr} {as : List Ag} {px py pt pos : Pos} {kt k2 pt2} (hc : X.calm = true) (hN : X.N.Nodup) (hi : X.N[i]? = some x) (hj : X.N[j]? = some y) (hij : i ≠ j) (il : i ∉ ln) (jl : j ∉ ln)
    (hx : X.env.scope.names.lookup x = some .local) (hy : X.env.scope.names.lookup y = some .local) (ha : PA X [a, b] (tAE T W as))
    (hw : swappedStores [.Tuple [.Name x px, .Name y py] kt pt] (.Tuple [a, b] k2 pt2) X.env = pure (some [x, y]) := by rfl)
    (hs : swapsWithSole [.Tuple [.Name x px, .Name y py] kt pt] (.Tuple [a, b] k2 pt2) pos.line X.env = pure false := by rfl) :
    PS X (.Assign [.Tuple [.Name x px, .Name y py] kt pt] (.Tuple [a, b] k2 pt2) pos) (tS T W ln (bPar i j as)) := by
  have hiN : i < X.N.length := (List.getElem?_eq_some_iff.mp hi).1
  have hjN : j < X.N.length := (List.getElem?_eq_some_iff.mp hj).1
  refine ⟨fun pins s σ H D I h => (ps_par hc hN hi hj hij hx hy ha hw hs).run pins s σ H D I ?_⟩
  obtain ⟨Z, F, ρ, E, na, q⟩ := of_tS h
  refine ⟨Z, F, ρ, E, na, ?_⟩
  unfold bPar at q
  cases e1 : evA as ρ with
  | st => rw [e1] at q; exact q
  | ex k p ρ1 =>
    rw [e1] at q
    intro c dd Z' H' F' n hx
    exact q σ c dd Z' H' F' n hx .refl
  | ok l ρ1 =>
    rw [e1] at q
    intro xs Z1 H1 F1 B1 n hl nl le
    split at q
    · rename_i d1 d2 ρ2 e2
      cases e2
      obtain ⟨v1, v2, C1, C2, rfl, rfl, w1, w2⟩ := hl.two2
      simp only [noAlL, Bool.and_eq_true, Bool.and_true] at nl
      have hl1 : ρ1.length = X.N.length := by rw [n.ev.ln, I.len]
      obtain ⟨F2, n2⟩ := n.set2 (i := i) (j := j) w1 w2 nl.1 nl.2 (by rw [hl1]; exact hiN) (by rw [hl1]; exact hjN)
      exact ⟨v1, v2, rfl, q _ Z1 H1 F2 n2 ((KpS.set il).tr (.set jl))⟩
    · exact q.elim
    · rename_i e2; cases e2
    · rename_i e2; cases e2
/-! ## calls of a def that a name holds -/
def eCallT (tab : Nat → Option (List OD → Rs)) (i : Nat) (as : List Ag) : EM := fun ρ => match ρ[i]? with
  | some (some (.pl (.fn j))) => (match tab j with
    | some g => eCall g as ρ
    | none => .st)
  | _ => .st
/-- what the table promises -/
def TabOk (X : Cx) (T : Tb) (k : Nat) (tab : Nat → Option (List OD → Rs)) : Prop := ∀ j g, tab j = some g → ∃ fd ps, FnOk X.prog X.w X.K X.mg X.base (L2.CX X.prog X.w) k (T.adr j) fd ps (spF T g) ∧ PySem.W.keepIn X.K (.ref (T.adr j)) = true ∧ Binds X.K fd ps []
theorem pe_callT {tab : Nat → Option (List OD → Rs)} {i k : Nat} {x : Str} {e : Expr} {es : List Expr} {as : List Ag} {p pos : Pos} (hT : TabOk X T k tab) (tk : Takes X W) (hr : Room k X.A) (hx : PE X (.Name x p) (tVar i)) (ha : PA X (e :: es) (tAE T W as))
    (he : starEach (e :: es) X.env = (false, eval e X.env) :: starEach es X.env := by rfl) (hpl : (backTo pos (starEach es X.env)).any (·.1) = false := by rfl) : PE X (.Call (.Name x p) (e :: es) [] pos) (tE T W (eCallT tab i as)) := by
  refine ⟨fun pins s σ H Q I h => ?_⟩
  obtain ⟨Z, F, ρ, E, na, q⟩ := of_tE h
  unfold eCallT at q
  split at q
  · rename_i j e1
    split at q
    · rename_i g eg
      obtain ⟨fd, ps, FK, hk, hb⟩ := hT j g eg
      obtain ⟨v, ev, hv⟩ := E.at_ i _ e1
      simp only [Vd, Vw] at hv
      obtain ⟨eF, rfl⟩ := hv
      refine wpAny_Call_Name_kw (thn (hx.run pins s σ H (fun v H1 => v = .ref (T.adr j) ∧ H1 = H) I ⟨_, ev, rfl, rfl⟩) fun u s1 ⟨v, H1, I1, r1, q1⟩ => ?_)
      obtain ⟨rfl, rfl⟩ := q1
      cases r1
      have z := t_callE (T := T) (W := W) (tE_of E na q)
      refine PySem.W.callWith_K (h₀ := X.base) I.ok.mod.kin hk (thn (ha.run pos pins s1 σ _ _ I1 z) fun us s2 ⟨vs, H2, I2, r, q2⟩ => ⟨I2.kIn, ?_⟩) he hpl
      exact run_fnS FK hr hb (passAt tk σ) I2 r q2
    · exact q.elim
  · exact q.elim
end
end Rq
end

section
set_option Elab.async false
set_option linter.all false
set_option maxRecDepth 100000
set_option maxHeartbeats 2000000
namespace Rq
open PySem PySem.Spec PyProof.Rows L2

/-! ## sum of lists, begun with a list -/
def AtL (h : Heap) (a : Addr) (its : List Value) : Prop := ∃ n, h.get? a = some ({ cls := .type "list", data := .seq its.toArray n } : Obj)
theorem args_sum2 (a b : Value) : argsOk "sum" ⟨[a, b], []⟩ := by unfold argsOk; kernel_rfl
theorem sub_list_strV : isSubtype (.type "list") (.type "str") = pure false := by rw [isSubtype_type]; kernel_rfl
theorem sub_list_bytesV : isSubtype (.type "list") (.type "bytes") = pure false := by rw [isSubtype_type]; kernel_rfl
theorem sub_list_byteaV : isSubtype (.type "list") (.type "bytearray") = pure false := by rw [isSubtype_type]; kernel_rfl
section
variable {prog : Program} {w : World} {A : Around} {R : Result → Shared → Prop} {I ax : Addr}
/-- rows: what the items of the list at ax hold; acc: the list that was made so far -/
theorem sum_loopL (hh : A.in1.handled = none) (hne : ax ≠ I) (items : Array Value) (rows : Nat → List Value) (S : Addr) (hSI : S ≠ I) (hSa : S ≠ ax) (zs : List Value)
    (hlen : ∀ i, i ≤ items.size → (zs ++ ((List.range i).map rows).flatten).length ≤ sizeLine) :
    ∀ (k i : Nat) (s : Shared) (acc : Addr) (c : Nat), items.size - i = k → i ≤ items.size → s.heap.IsListIter I ax i → s.heap.IsList ax items → s.heap.get? S = some { cls := .type "list", dict := none, data := .seq #[.ref acc] c, slots := #[] } →
    acc ≠ S → acc ≠ I → AtL s.heap acc (zs ++ ((List.range i).map rows).flatten) → (∀ (j : Nat), j < items.size → ∃ b, items[j]? = some (.ref b) ∧ b ≠ I ∧ b ≠ S ∧ AtL s.heap b (rows j)) →
    (∀ h' tk acc', (∀ b o, b ≠ I → b ≠ S → s.heap.get? b = some o → h'.get? b = some o) → AtL h' acc' (zs ++ ((List.range items.size).map rows).flatten) → (i = items.size → acc' = acc) → (i < items.size → s.heap.get? acc' = none) → R (.ok (.ret (.ref acc'))) { s with heap := h', toks := tk }) →
    codeAny (model prog w) A (.builtin "sum.loop" ⟨[.ref I, .ref S, rawInt 2, rawInt 0], []⟩) R s := by
  have W := Walks.list (prog := prog) (w := w) (A := A.in1) hh I ax hne items
  intro k
  induction k with
  | zero =>
    intro i s acc c hk hi hit hl hS haS haI hacc hrows hR
    have hin : i = items.size := by omega
    subst hin
    refine codeAny_builtin F.entry_sum_loop ?_
    rw [Around.under_plainId F.plain_sum_loop _]
    show wpAny _ A.in1 (seqItems? (.ref S) >>= _) _ _ s
    refine wpAny_bind (wpAny_seqItems hS rfl ?_)
    show wpAny _ A.in1 (tryCatch (pyNext (.ref I)) _ >>= _) _ _ s
    refine wpAny_bind (wpAny_tryCatch (W.done s _ _ ⟨hit, hl⟩ fun h' tk hk' => ?_))
    refine wpAny_pure (hR h' tk acc (fun b o hb _ e => hk' b o (by simpa using hb) e) ?_ (fun _ => rfl) (fun z => absurd z (Nat.lt_irrefl _)))
    obtain ⟨n, e⟩ := hacc
    exact ⟨n, hk' _ _ (by simpa using haI) e⟩
  | succ k ih =>
    intro i s acc c hk hi hit hl hS haS haI hacc hrows hR
    have hlt : i < items.size := by omega
    refine codeAny_builtin F.entry_sum_loop ?_
    rw [Around.under_plainId F.plain_sum_loop _]
    show wpAny _ A.in1 (seqItems? (.ref S) >>= _) _ _ s
    refine wpAny_bind (wpAny_seqItems hS rfl ?_)
    show wpAny _ A.in1 (tryCatch (pyNext (.ref I)) _ >>= _) _ _ s
    refine wpAny_bind (wpAny_tryCatch (W.item i s _ _ hlt ⟨hit, hl⟩ fun v h' tk hP hst' hk' => ?_))
    obtain ⟨b, hb, hbI, hbS, nb, hbo⟩ := hrows i hlt
    have ev : v = .ref b := by
      have z : items[i]? = some v := hP
      rw [hb] at z
      exact (Option.some.inj z).symm
    subst ev
    have kk : ∀ a o, a ≠ I → s.heap.get? a = some o → h'.get? a = some o := fun a o ha e => hk' a o (by simpa using ha) e
    have hS' := kk S _ hSI hS
    obtain ⟨na, hao⟩ := hacc
    have hao' := kk _ _ haI hao
    have hbo' := kk _ _ hbI hbo
    show wpAny _ A.in1 ((holding [Value.ref b] (binaryOp .Add (.ref acc) (.ref b))).attempt >>= _) _ _ _
    have lenx := hlen (i + 1) hlt
    rw [List.range_succ, List.map_append, List.flatten_append, ← List.append_assoc] at lenx
    simp only [List.map_cons, List.map_nil, List.flatten_cons, List.flatten_nil, List.append_nil] at lenx
    refine wpAny_bind (wpAny_attempt (wpAny_holding (PySem.P.add_list hao' hbo' ?_ (by rw [List.size_toArray, List.size_toArray, ← List.length_append]; exact lenx))))
    have hpush : ∀ a o, h'.get? a = some o → (h'.push { cls := .type "list", data := .seq ((zs ++ ((List.range i).map rows).flatten).toArray ++ (rows i).toArray) }).get? a = some o := fun a o e => Heap.get?_push_of_some _ e
    have hnew : (h'.push { cls := .type "list", data := .seq ((zs ++ ((List.range i).map rows).flatten).toArray ++ (rows i).toArray) }).get? h'.objs.size = some { cls := .type "list", data := .seq ((zs ++ ((List.range i).map rows).flatten).toArray ++ (rows i).toArray) } := Heap.get?_push_size _ rfl
    have hS2 := hpush _ _ hS'
    have sizeS : S < h'.objs.size := Heap.lt_size hS'
    have sizeI : I < h'.objs.size := by
      obtain ⟨o, e, _⟩ := hst'.1
      exact Heap.lt_size e
    generalize hpp : h'.push { cls := .type "list", data := .seq ((zs ++ ((List.range i).map rows).flatten).toArray ++ (rows i).toArray) } = h2 at hpush hnew hS2
    show wpAny _ A.in1 (updateSeq S (fun _ => #[.ref h'.objs.size]) >>= _) _ _ _
    refine wpAny_bind ?_
    refine wpAny_updateSeq hS2 rfl ?_
    have hS3 := Heap.get?_update_self (Obj.mapSeq fun _ => #[Value.ref h'.objs.size]) hS2 rfl
    refine wpAny_bind (wpAny_letGo ?_)
    refine wpAny_bind ?_
    have up : ∀ {hh : Heap} {f : Obj → Obj} {a : Addr} {o : Obj}, a ≠ S → hh.get? a = some o → (hh.update S f).get? a = some o := fun {hh f a o} n e => (Heap.get?_update_other _ _ (Ne.symm n)).trans e
    refine wpAny_updateSeq hS3 rfl (wpAny_pure ⟨plainId_quiet F.plain_sum_loop _, ih (i + 1) _ h'.objs.size _ (by omega) hlt ?_ ?_ (Heap.get?_update_self _ hS3 rfl) (Nat.ne_of_gt sizeS) (Nat.ne_of_gt sizeI) ?_ ?_ ?_⟩)
    · exact hst'.1.at fun o e => up (Ne.symm hSI) (up (Ne.symm hSI) (hpush _ _ e))
    · exact hst'.2.at fun o e => up (Ne.symm hSa) (up (Ne.symm hSa) (hpush _ _ e))
    · refine ⟨0, up (Nat.ne_of_gt sizeS) (up (Nat.ne_of_gt sizeS) ?_)⟩
      rw [hnew, List.range_succ, List.map_append, List.flatten_append, ← List.append_assoc]
      simp
    · intro j hj
      obtain ⟨b', e1, e2, e3, m, e4⟩ := hrows j hj
      exact ⟨b', e1, e2, e3, m, up e3 (up e3 (hpush _ _ (kk _ _ e2 e4)))⟩
    · intro h'' tk'' acc'' hk'' hacc'' hE hN
      refine hR h'' tk'' acc'' (fun a o ha haS' e => hk'' a o ha haS' (up haS' (up haS' (hpush _ _ (kk _ _ ha e))))) hacc'' (fun z => absurd z (Nat.ne_of_lt hlt)) (fun _ => ?_)
      cases eS : s.heap.get? acc'' with
      | none => rfl
      | some o =>
        exfalso
        by_cases z : i + 1 = items.size
        · have q := hE z
          subst q
          by_cases cI : h'.objs.size = I
          · exact absurd cI (Nat.ne_of_gt sizeI)
          · exact absurd (Heap.lt_size (kk _ _ cI eS)) (Nat.lt_irrefl _)
        · have q := hN (by omega)
          by_cases cI : acc'' = I
          · subst cI
            obtain ⟨o2, e2, _⟩ := hst'.1
            have e3 := up (f := Obj.mapSeq fun _ => #[Value.ref h'.objs.size]) (Ne.symm hSI) (up (f := Obj.mapSeq fun _ => #[Value.ref h'.objs.size]) (Ne.symm hSI) (hpush _ _ e2))
            rw [e3] at q
            cases q
          · by_cases cS : acc'' = S
            · subst cS
              have e3 := Heap.get?_update_self (Obj.mapSeq fun _ => #[Value.ref h'.objs.size]) hS3 rfl
              rw [e3] at q
              cases q
            · have e3 := up (f := Obj.mapSeq fun _ => #[Value.ref h'.objs.size]) cS (up (f := Obj.mapSeq fun _ => #[Value.ref h'.objs.size]) cS (hpush _ _ (kk _ _ cI eS)))
              rw [e3] at q
              cases q
end
section
variable {prog : Program} {w : World} {A : Around} {E : Value → Shared → Prop} {s : Shared}
theorem sum_listsL {l e : Addr} {items : Array Value} (hh : A.handled = none) (rows : Nat → List Value) (zs : List Value) {Q : Value → Shared → Prop} (hl : s.heap.IsList l items) (he : AtL s.heap e zs) (hrows : ∀ (j : Nat), j < items.size → ∃ b, items[j]? = some (.ref b) ∧ AtL s.heap b (rows j))
    (hlen : ∀ i, i ≤ items.size → (zs ++ ((List.range i).map rows).flatten).length ≤ sizeLine)
    (h : ∀ h' tk a, (∀ b o, s.heap.get? b = some o → h'.get? b = some o) → AtL h' a (zs ++ ((List.range items.size).map rows).flatten) → (items.size = 0 → a = e) → (0 < items.size → s.heap.get? a = none) → Q (.ref a) { s with heap := h', toks := tk }) :
    wpAny (model prog w) A (call (.builtin "sum") [.ref l, .ref e]) Q E s := by
  refine call_function_tree F.kind_sum F.plain_sum F.entry_sum (args_sum2 _ _) ?_
  unfold Builtin.«sum»
  simp only [List.length_cons, List.length_nil]
  rw [if_neg (by decide)]
  refine wpAny_bind (wpAny_of_eq (show Builtin.Builtins.bindParams "sum" ["start"] 0 { pos := [.ref e] } = pure [some (.ref e)] from rfl) ?_)
  have ll : l < s.heap.objs.size := by obtain ⟨o, ho, _⟩ := hl; exact Heap.lt_size ho
  refine wpAny_bind (wpAny_pyIter_list hl ?_)
  have k1 : ∀ b o, s.heap.get? b = some o → (s.heap.push { cls := .type "list_iterator", data := .fields #[.ref l, .int 0 0] }).get? b = some o := fun b o e => Heap.get?_push_of_some _ e
  have hI : (s.heap.push { cls := .type "list_iterator", data := .fields #[.ref l, .int 0 0] }).IsListIter s.heap.objs.size l 0 := ⟨_, Heap.get?_push_size _ rfl, rfl, rfl⟩
  have sz1 : (s.heap.push { cls := .type "list_iterator", data := .fields #[.ref l, .int 0 0] }).objs.size = s.heap.objs.size + 1 := Heap.size_push ..
  generalize hg1 : s.heap.push { cls := .type "list_iterator", data := .fields #[.ref l, .int 0 0] } = h1 at k1 hI sz1
  obtain ⟨ne, heo⟩ := he
  have heo1 := k1 _ _ heo
  have ty : Shared.TypeIs ⟨h1, s.gens, s.drawn, s.toks, s.os⟩ (.ref e) "list" := ⟨_, heo1, rfl⟩
  refine wpAny_bind (wpAny_pure ?_)
  simp only [List.forIn_cons, List.forIn_nil]
  refine wpAny_bind (wpAny_bind (wpAny_bind (wpAny_isInstance (T := "list") (b := false) ty sub_list_strV ?_)))
  simp only [Bool.false_eq_true, if_false]
  refine wpAny_pure (wpAny_bind (wpAny_bind (wpAny_isInstance (T := "list") (b := false) ty sub_list_bytesV ?_)))
  simp only [Bool.false_eq_true, if_false]
  refine wpAny_pure (wpAny_bind (wpAny_bind (wpAny_isInstance (T := "list") (b := false) ty sub_list_byteaV ?_)))
  simp only [Bool.false_eq_true, if_false]
  refine wpAny_pure (wpAny_pure ?_)
  refine wpAny_bind (wpAny_newObj_type ?_)
  have k2 : ∀ b o, h1.get? b = some o → (h1.push { cls := .type "list", data := .seq [Value.ref e].toArray }).get? b = some o := fun b o e => Heap.get?_push_of_some _ e
  have lt : ∀ {b : Addr} {o : Obj}, s.heap.get? b = some o → b < s.heap.objs.size := fun e => Heap.lt_size e
  have sI : s.heap.objs.size < h1.objs.size := by rw [sz1]; exact Nat.lt_succ_self _
  refine wpAny_pure ⟨plainId_quiet F.plain_sum_loop _, sum_loopL (ax := l) (I := s.heap.objs.size) hh (Nat.ne_of_lt ll) items rows h1.objs.size (Nat.ne_of_gt sI) (Nat.ne_of_gt (Nat.lt_trans ll sI)) zs hlen _ 0 _ e _ rfl (Nat.zero_le _)
    (hI.at fun o e => k2 _ _ e) (hl.at fun o e => k2 _ _ (k1 _ _ e)) (Heap.get?_push_size _ rfl) (Nat.ne_of_lt (Nat.lt_trans (lt heo) sI)) (Nat.ne_of_lt (lt heo)) ⟨ne, by simpa using k2 _ _ heo1⟩ (fun j hj => ?_) fun h' tk a hk ha h0 hN => ?_⟩
  · obtain ⟨b, e1, m, e2⟩ := hrows j hj
    exact ⟨b, e1, Nat.ne_of_lt (lt e2), Nat.ne_of_lt (Nat.lt_trans (lt e2) sI), m, k2 _ _ (k1 _ _ e2)⟩
  · refine h h' tk a (fun b o eb => hk b o (Nat.ne_of_lt (lt eb)) (Nat.ne_of_lt (Nat.lt_trans (lt eb) sI)) (k2 _ _ (k1 _ _ eb))) ha (fun z => h0 z.symm) fun z => ?_
    have q := hN z
    cases eS : s.heap.get? a with
    | none => rfl
    | some o =>
      have y := k2 _ _ (k1 _ _ eS)
      rw [y] at q
      cases q
end
end Rq
end

section
set_option Elab.async false
set_option linter.all false
set_option maxRecDepth 100000
set_option maxHeartbeats 2000000
namespace Rq
open PySem PySem.Spec PyProof.Rows L2

section
variable {X : Cx} {T : Tb} {W : WX} {Z : Addr → Prop} {H : Hp} {v : V} {B B0 : List Addr} {d : OD}
/-- the rows that a list's items are -/
inductive RowsV (H : Hp) : List V → List (List V) → Prop
  | nil : RowsV H [] []
  | cons {b : Addr} {ys : List V} {xs : List V} {rows : List (List V)} : Rd H b (.lst ys) → RowsV H xs rows → RowsV H (.ref b :: xs) (ys :: rows)
inductive RowsA (h : Heap) : List Value → List (List Value) → Prop
  | nil : RowsA h [] []
  | cons {b : Addr} {its : List Value} {us : List Value} {rows : List (List Value)} : AtL h b its → RowsA h us rows → RowsA h (.ref b :: us) (its :: rows)
theorem RowsA.get {h : Heap} : ∀ {us : List Value} {rows : List (List Value)}, RowsA h us rows → ∀ j, j < us.length → ∃ b, us[j]? = some (.ref b) ∧ AtL h b (rows.getD j [])
  | _, _, .nil, j, hj => by simp at hj
  | _, _, .cons (b := b) a r, 0, hj => ⟨b, rfl, by simpa using a⟩
  | _, _, .cons a r, j + 1, hj => by
    obtain ⟨b, e, q⟩ := r.get j (by simpa using hj)
    exact ⟨b, by simpa using e, by simpa using q⟩
theorem RowsA.len {h : Heap} : ∀ {us : List Value} {rows : List (List Value)}, RowsA h us rows → us.length = rows.length
  | _, _, .nil => rfl
  | _, _, .cons _ r => by simp [r.len]
theorem rows_vals {P : Program} {w : World} {h : Heap} (hok : HOk P w H h) : ∀ {xs : List V} {rows : List (List V)} {us : List Value}, RowsV H xs rows → Vals xs us → ∃ vr, RowsA h us vr ∧ Vals rows.flatten vr.flatten
  | _, _, _, .nil, .nil => ⟨[], .nil, .nil⟩
  | _, _, _, .cons hb r, .cons ru rr => by
    obtain ⟨vr, q1, q2⟩ := rows_vals hok r rr
    obtain ⟨z, its, n, rv, e⟩ := hb.ok hok
    cases ru
    exact ⟨its :: vr, .cons ⟨n, e⟩ q1, by simpa using rv.append q2⟩
theorem flat_take {α : Type} (rows : List (List α)) : ∀ i, i ≤ rows.length → ((List.range i).map fun j => rows.getD j []).flatten = (rows.take i).flatten
  | 0, _ => by simp
  | i + 1, h => by
    rw [List.range_succ, List.map_append, List.flatten_append, flat_take rows i (by omega), List.take_succ, List.flatten_append]
    congr 1
    have : i < rows.length := h
    simp [List.getElem?_eq_getElem this]
/-- sum(xs, zs) of lists -/
def rSumL : List V → Hp → VK → Prop := fun xs H Q => ∃ (a e : Addr) (rs : List V) (rows : List (List V)) (zs : List V), xs = [.ref a, .ref e] ∧ Rd H a (.lst rs) ∧ Rd H e (.lst zs) ∧ RowsV H rs rows ∧ (zs ++ rows.flatten).length ≤ sizeLine ∧
  (rows = [] → Q (.ref e) H) ∧ (rows ≠ [] → ∀ p, H p = none → Q (.ref p) (upd H p (.lst (zs ++ rows.flatten))))
theorem RowsV.len : ∀ {xs : List V} {rows : List (List V)}, RowsV H xs rows → xs.length = rows.length
  | _, _, .nil => rfl
  | _, _, .cons _ r => by simp [r.len]
theorem call_sumL (hc : X.calm = true) : CallR X (.builtin "sum") rSumL := by
  intro pins s σ H xs us Q I r h
  obtain ⟨a, e, rs, rows, zs, rfl, ha, he, hr, hl, q0, q1⟩ := h
  cases r with
  | cons ra rr =>
    cases rr with
    | cons re rr =>
      cases rr
      cases ra
      cases re
      obtain ⟨z, its, n, rv, ea⟩ := ha.ok I.hok
      obtain ⟨z2, ws, n2, rw2, ee⟩ := he.ok I.hok
      obtain ⟨vr, qa, qv⟩ := rows_vals I.hok hr rv
      have lv := qv.length
      have lz := rw2.length
      have lr := qa.len
      have key : ∀ i, i ≤ its.length → ((List.range i).map fun j => vr.getD j []).flatten = (vr.take i).flatten := fun i hi => flat_take vr i (by omega)
      have full : ((List.range its.toArray.size).map fun j => vr.getD j []).flatten = vr.flatten := by
        rw [List.size_toArray, key _ (Nat.le_refl _), lr, List.take_length]
      refine sum_listsL (I.ok.hd hc) (fun j => vr.getD j []) ws (items := its.toArray) ⟨_, ea, rfl, n, rfl⟩ ⟨n2, ee⟩ (fun j hj => ?_) (fun i hi => ?_) fun h' tk p hk hp h0 hN => ?_
      · obtain ⟨b, e1, e2⟩ := qa.get j (by simpa using hj)
        exact ⟨b, by simpa using e1, e2⟩
      · rw [key i (by simpa using hi)]
        have : (vr.take i).flatten.length ≤ vr.flatten.length := by
          conv => rhs; rw [← List.take_append_drop i vr, List.flatten_append, List.length_append]
          omega
        rw [List.length_append] at hl ⊢
        omega
      · rw [full] at hp
        have I2 : Inv X pins σ H { s with heap := h', toks := tk } := I.kept (t' := tk) hk
        have lrs := hr.len
        have lvs := rv.length
        by_cases c : rows = []
        · have e0 : its.toArray.size = 0 := by
            rw [List.size_toArray, ← lvs, lrs, c]; rfl
          rw [h0 e0]
          exact ⟨.ref e, H, I2, rfl, q0 c⟩
        · have npos : 0 < its.toArray.size := by
            rw [List.size_toArray, ← lvs, lrs]
            exact List.length_pos_iff.mpr c
          have pn := hN npos
          have hn : H p = none := I.hok.gone pn
          refine ⟨.ref p, _, I.laidN (t' := tk) (h' := h') (o := .lst (zs ++ rows.flatten)) hk pn hn ?_, rfl, q1 c p hn⟩
          obtain ⟨m, em⟩ := hp
          exact ⟨hl, _, m, rw2.append qv, em⟩
def rowsP : List PD → Option (List (List PD))
  | [] => some []
  | .lst l :: r => (rowsP r).map (l :: ·)
  | _ :: _ => none
theorem rowsP_vw : ∀ {ps : List PD} {xs : List V} {ls : List (List PD)}, VwL T Z H ps xs → rowsP ps = some ls → ∃ rows, RowsV H xs rows ∧ VwL T Z H ls.flatten rows.flatten ∧ rows.length = ls.length
  | [], xs, ls, h, e => by
    simp only [VwL] at h
    subst h
    cases e
    exact ⟨[], .nil, by simp [VwL], rfl⟩
  | .lst l :: r, xs, ls, h, e => by
    simp only [VwL, Vw] at h
    obtain ⟨x, r', rfl, ⟨a, ys, rfl, hr, z, w⟩, q⟩ := h
    simp only [rowsP, Option.map_eq_some_iff] at e
    obtain ⟨ls', e1, rfl⟩ := e
    obtain ⟨rows, q1, q2, q3⟩ := rowsP_vw q e1
    exact ⟨ys :: rows, .cons hr q1, by simpa using VwL.app w q2, by simp [q3]⟩
  | .non :: _, xs, ls, h, e => by simp [rowsP] at e
  | .bl _ :: _, xs, ls, h, e => by simp [rowsP] at e
  | .int _ :: _, xs, ls, h, e => by simp [rowsP] at e
  | .str _ :: _, xs, ls, h, e => by simp [rowsP] at e
  | .fn _ :: _, xs, ls, h, e => by simp [rowsP] at e
  | .tup _ :: _, xs, ls, h, e => by simp [rowsP] at e
  | .xc _ _ :: _, xs, ls, h, e => by simp [rowsP] at e
def fSumL : List OD → Option OD
  | [d1, d2] => match d1.lstF, d2.lstF with
    | some ps, some zs => (match rowsP ps with
      | some ls => if ls.isEmpty = false ∧ zs.length + ls.flatten.length ≤ 16777216 then some (.ol (plL (zs ++ ls.flatten))) else none
      | none => none)
    | _, _ => none
  | _ => none
theorem c_sumL : Cal T rSumL fSumL := fun Z H xs l d B Q zx h nd nz e q => by
  unfold fSumL at e
  split at e
  · rename_i d1 d2
    obtain ⟨x, y, B1, B2, rfl, rfl, h1, h2⟩ := h.two2
    split at e
    · rename_i ps zs e1 e2
      split at e
      · rename_i ls e3
        split at e
        · rename_i c
          cases e
          obtain ⟨a, xs, rfl, r1, w1⟩ := lstF_vd h1 e1
          obtain ⟨b, ys, rfl, r2, w2⟩ := lstF_vd h2 e2
          obtain ⟨rows, q1, q2, q3⟩ := rowsP_vw w1 e3
          have ne : rows ≠ [] := fun z => by
            rw [z] at q3
            have : ls = [] := List.length_eq_zero_iff.mp q3.symm
            rw [this] at c
            cases c.1
          refine ⟨a, b, xs, rows, ys, rfl, r1, r2, q1, ?_, fun z => absurd z ne, fun _ p hp => q _ _ _ _ (Ny.lst zx (foot2 h1 h2) (VwL.app w2.z2 q2.z1) hp) fun _ => plL_noAl⟩
          rw [List.length_append, w2.len, q2.len, sizeLine_eq]
          exact c.2
        · cases e
      · cases e
    · cases e
  · cases e
end
end Rq
end

section
set_option Elab.async false
set_option linter.all false
set_option maxRecDepth 100000
set_option maxHeartbeats 2000000
namespace Rq
open PySem PySem.Spec PyProof.Rows L2

/-! ## defs that are called where no repr is under way -/
structure FnG (P : Program) (w : World) (K : PySem.W.Frag) (mg : Str → Option Value) (base : Heap) (CX : CXT) (k : Nat) (f : Addr) (fd : FuncData) (ps : List Str) (sp : Sp) : Prop where
  len : ∀ vs H Q E, sp vs H Q E → vs.length = ps.length
  run : ∀ (A : Around) (outer : List Env) (s : Shared) (H : Hp) (args : Args) (us : List Value) (vs : List V) (Q : VK) (E : XK), Room k A → A.guards = some [] → Env0 P w K mg base A outer s H → BindsTo s fd args (ps.zip us) → Vals vs us → sp vs H Q E →
    codeAny (model P w) A (.call (.ref f) args) (CR CX outer P w H s Q E) s
section
variable {P : Program} {w : World} {K : PySem.W.Frag} {mg : Str → Option Value} {base : Heap}
theorem FnG.of {CX : CXT} {k : Nat} {f : Addr} {fd : FuncData} {ps : List Str} {sp : Sp} (F : FnOk P w K mg base CX k f fd ps sp) : FnG P w K mg base CX k f fd ps sp :=
  ⟨F.len, fun A outer s H args us vs Q E hr _ => F.run A outer s H args us vs Q E hr⟩
theorem fnG_of {T : Tb} {x qual : Str} {st : Stmt} {f : Addr} {fd : FuncData} {N ps : List Str} {k : Nat} {ln : List Nat} {b : SM} (F : Fun K x qual st f fd) (S : FnScope N ps (defScope st))
    (hb : ∀ (cdv : Value) (A : Around) (outer : List Env) (s : Shared) (H : Hp) (E : XK), Room k (A.deeper (envOfC qual (defScope st) s.heap.objs.size f cdv)) → (A.deeper (envOfC qual (defScope st) s.heap.objs.size f cdv)).guards = some [] →
      PSs (cxOf (L2.CX P w) P w K mg base N qual (defScope st) f cdv A outer s H E) (defBody st) (tS T (fun c d _ H' => E c d H') ln b)) :
    FnG P w K mg base (L2.CX P w) (k + 1) f fd ps (spF T (runD ps.length N.length ln b)) := by
  have hlen : ∀ vs H Q E, spF T (runD ps.length N.length ln b) vs H Q E → vs.length = ps.length := fun vs H Q E h => by
    obtain ⟨Z, F', ds, Ed, na, q⟩ := h
    have l := Ed.ln
    simp only [List.length_map] at l
    unfold runD at q
    by_cases c : ds.length = ps.length
    · omega
    · rw [if_neg c] at q; exact q.elim
  obtain ⟨oc, od, kV, doc, pm, an, cdv, ct, osl, rfl, lk, hcd⟩ := F.ex
  refine ⟨hlen, fun A outer s H args us vs Q E hr hg e0 hbd r hsp => ?_⟩
  have hl := hlen _ _ _ _ hsp
  have kp : ∀ b o, base.get? b = some o → s.heap.get? b = some o := fun b o e => (e0.bs b o e).1
  have hkind : ∀ y ∈ ps.zip us, (defScope st).names.lookup y.1 = some .local ∨ ((defScope st).names.lookup y.1 = some .cell ∧ ((cellsFrom (s.heap.objs.size + 1) (defScope st).names []).lookup y.1).isSome = true) := fun ⟨n, v⟩ hy =>
    (S.par n (List.of_mem_zip hy).1).imp_right fun q => ⟨q, PySem.W.cellsFrom_some _ _ _ (.inl q)⟩
  refine codeAny_call_function hr.depth (e0.mod.kin.keeps kp _ _ lk) rfl S.co S.gen rfl (PySem.W.codeRec_of (e0.mod.kin.keeps kp) hcd) (hbd _ _ _ _ (wpAny_newFunctionEnv_cells S.kind hkind fun env he s1 x => ?_))
  subst he
  refine ⟨(e0.mod.nolimit.keeps kp).keeps x.toInCall.keep, codeAny_func ?_⟩
  -- the body's reading at the parameters' data
  have hq : tS T (fun c d _ H' => E c d H') ln b { nx := fun _ H' => Q .non H', rt := Q } (L2.start N vs) H := by
    obtain ⟨Z, F', ds, Ed, na, q⟩ := hsp
    have l := Ed.ln
    simp only [List.length_map] at l
    have hd : ds.length = ps.length := l.trans hl
    unfold runD at q
    rw [if_pos hd] at q
    unfold L2.start
    rw [hl]
    refine tS_of (Ev.start Ed) (NoA.start na) ?_
    cases e : b (ds.map some ++ List.replicate (N.length - ps.length) none) with
    | nx ρ' =>
      rw [e] at q
      intro σ' Z' H' F2 n kk
      obtain ⟨F3, n3⟩ := n.leave (ln := ln) kk
      rw [hl] at n3
      exact q .non Z' H' F3 [] n3 (by simp only [Vd, Vw]; exact ⟨trivial, trivial⟩) rfl
    | rt d ρ' =>
      rw [e] at q
      intro σ' v Z' H' F2 B n hv nd kk
      obtain ⟨F3, n3⟩ := n.leave (ln := ln) kk
      rw [hl] at n3
      exact q v Z' H' F3 B n3 hv nd
    | ex kx p ρ' =>
      rw [e] at q
      intro σ' c dd Z' H' F2 n hx kk
      obtain ⟨F3, n3⟩ := n.leave (ln := ln) kk
      rw [hl] at n3
      exact q c dd Z' H' F3 n3 hx
    | bk ρ' => rw [e] at q; exact q.elim
    | ct ρ' => rw [e] at q; exact q.elim
    | st => rw [e] at q; exact q.elim
  have I : Inv (cxOf (L2.CX P w) P w K mg base N qual (defScope st) f cdv A outer s H E) [] (L2.start N vs) H s1 := inv_start S hr.hd e0 hl r x
  refine wpAny_mono ((hb cdv A outer s H E (hr.deeper _) hg).run [] s1 _ H _ I hq) (fun fl s' hs => ?_) fun e s' hs => hs
  cases fl with
  | ret u =>
    obtain ⟨v, σ', H', J, rv, q⟩ := hs
    exact ⟨v, H', J.os, J.bare, J.base, J.hok, rv, q⟩
  | next =>
    obtain ⟨σ', H', J, q⟩ := hs
    exact ⟨.non, H', J.os, J.bare, J.base, J.hok, rfl, q⟩
  | brk =>
    obtain ⟨_, _, _, q⟩ := hs
    exact q.elim
  | cont =>
    obtain ⟨_, _, _, q⟩ := hs
    exact q.elim
end
end Rq
end

section
set_option Elab.async false
set_option linter.all false
set_option maxRecDepth 100000
set_option maxHeartbeats 2000000
namespace Rq
open PySem PySem.Spec PyProof.Rows L2

/-! ## repr -/
mutual
def PD.toD : PD → Option PyData
  | .non => some .none
  | .bl b => some (.bool b)
  | .int i => some (.int i)
  | .str s => some (.str s)
  | .fn _ => none
  | .lst l => (toDL l).map .list
  | .tup l => (toDL l).map .tuple
  | .xc _ _ => none
def toDL : List PD → Option (List PyData)
  | [] => some []
  | p :: ps => match p.toD, toDL ps with
    | some d, some ds => some (d :: ds)
    | _, _ => none
end
mutual
/-- small numbers, no texts -/
def PD.small : PD → Bool
  | .int i => decide (i.natAbs < 10 ^ 12)
  | .lst l => smallL l
  | .tup l => smallL l
  | .str _ => false
  | _ => true
def smallL : List PD → Bool
  | [] => true
  | p :: ps => p.small && smallL ps
end
section
variable {T : Tb} {Z : Addr → Prop} {H : Hp} {P : Program} {w : World} {h : Heap}
mutual
theorem reads_of (hok : HOk P w H h) : ∀ {p : PD} {v : V} {u : Value} {d : PyData}, Vw T Z H p v → RelV v u → p.toD = some d → ∃ as, Reads h u d as
  | .non, v, u, d, hv, r, e => by
    simp only [Vw] at hv; subst hv; cases r
    simp only [PD.toD, Option.some.injEq] at e; subst e
    exact ⟨_, .none⟩
  | .bl b, v, u, d, hv, r, e => by
    simp only [Vw] at hv; subst hv
    obtain rfl : u = Value.bool b := r
    simp only [PD.toD, Option.some.injEq] at e; subst e
    exact ⟨_, .bool b⟩
  | .int i, v, u, d, hv, r, e => by
    simp only [Vw] at hv; subst hv
    obtain ⟨t, rfl⟩ := r
    simp only [PD.toD, Option.some.injEq] at e; subst e
    exact ⟨_, .int i t⟩
  | .str s, v, u, d, hv, r, e => by
    simp only [Vw] at hv; subst hv
    obtain ⟨t, rfl⟩ := r
    simp only [PD.toD, Option.some.injEq] at e; subst e
    exact ⟨_, .str s t⟩
  | .fn _, v, u, d, hv, r, e => by simp [PD.toD] at e
  | .xc _ _, v, u, d, hv, r, e => by simp [PD.toD] at e
  | .lst l, v, u, d, hv, r, e => by
    simp only [Vw] at hv
    obtain ⟨a, xs, rfl, hr, z, q⟩ := hv
    obtain rfl : u = Value.ref a := r
    simp only [PD.toD, Option.map_eq_some_iff] at e
    obtain ⟨ds, e1, rfl⟩ := e
    obtain ⟨_, its, n, rv, ho⟩ := hr.ok hok
    obtain ⟨as, ra⟩ := readsL_of hok q rv e1
    exact ⟨_, .list (vs := its.toArray) ho rfl rfl ra⟩
  | .tup l, v, u, d, hv, r, e => by
    simp only [Vw] at hv
    obtain ⟨a, xs, rfl, hr, q⟩ := hv
    obtain rfl : u = Value.ref a := r
    simp only [PD.toD, Option.map_eq_some_iff] at e
    obtain ⟨ds, e1, rfl⟩ := e
    obtain ⟨_, its, rv, o, ho, hc, n, hd⟩ := hr.ok hok
    obtain ⟨as, ra⟩ := readsL_of hok q rv e1
    exact ⟨_, .tuple (vs := its.toArray) ho hc hd ra⟩
theorem readsL_of (hok : HOk P w H h) : ∀ {ps : List PD} {xs : List V} {us : List Value} {ds : List PyData}, VwL T Z H ps xs → Vals xs us → toDL ps = some ds → ∃ as, ReadsAll h us ds as
  | [], xs, us, ds, hv, r, e => by
    simp only [VwL] at hv
    subst hv
    cases r
    cases e
    exact ⟨_, .nil⟩
  | p :: ps, xs, us, ds, hv, r, e => by
    simp only [VwL] at hv
    obtain ⟨x, xr, rfl, hx, hr⟩ := hv
    cases r with
    | cons rx rr =>
      simp only [toDL] at e
      split at e
      · rename_i d ds' e1 e2
        cases e
        obtain ⟨as, ra⟩ := reads_of hok hx rx e1
        obtain ⟨bs, rb⟩ := readsL_of hok hr rr e2
        exact ⟨_, .cons ra rb⟩
      · cases e
end
end
mutual
theorem small_ok : ∀ {p : PD} {d : PyData}, p.small = true → p.toD = some d → d.showable = true ∧ d.hasDict = false ∧ d.leavesShort 13 = true
  | .non, d, s, e => by simp only [PD.toD, Option.some.injEq] at e; subst e; exact ⟨rfl, rfl, rfl⟩
  | .bl b, d, s, e => by simp only [PD.toD, Option.some.injEq] at e; subst e; exact ⟨rfl, rfl, rfl⟩
  | .int i, d, s, e => by
    simp only [PD.toD, Option.some.injEq] at e; subst e
    simp only [PD.small, decide_eq_true_eq] at s
    refine ⟨?_, rfl, ?_⟩
    · simp only [PyData.showable, decide_eq_true_eq]
      by_cases c : i.natAbs = 0
      · rw [c]; decide
      · exact Nat.lt_of_lt_of_le ((Nat.log2_lt c).mpr (Nat.lt_of_lt_of_le s (by decide : 10 ^ 12 ≤ 2 ^ 40))) (by decide : 40 ≤ 1920)
    · simp only [PyData.leavesShort, PyData.shown]
      refine decide_eq_true ?_
      show (Str.ofString (toString i)).length ≤ 13
      rw [PySem.ofString_length]
      exact int_text_length_le10 (k := 12) (by decide) s
  | .str s, d, h, e => by cases h
  | .fn _, d, s, e => by simp [PD.toD] at e
  | .xc _ _, d, s, e => by simp [PD.toD] at e
  | .lst l, d, s, e => by
    simp only [PD.toD, Option.map_eq_some_iff] at e
    obtain ⟨ds, e1, rfl⟩ := e
    obtain ⟨a, b, c⟩ := smallL_ok (by simpa only [PD.small] using s) e1
    exact ⟨a, b, c⟩
  | .tup l, d, s, e => by
    simp only [PD.toD, Option.map_eq_some_iff] at e
    obtain ⟨ds, e1, rfl⟩ := e
    obtain ⟨a, b, c⟩ := smallL_ok (by simpa only [PD.small] using s) e1
    exact ⟨a, b, c⟩
theorem smallL_ok : ∀ {ps : List PD} {ds : List PyData}, smallL ps = true → toDL ps = some ds → PyData.showableAll ds = true ∧ PyData.hasDictAll ds = false ∧ PyData.leavesShortAll 13 ds = true
  | [], ds, s, e => by cases e; exact ⟨rfl, rfl, rfl⟩
  | p :: ps, ds, s, e => by
    simp only [smallL, Bool.and_eq_true] at s
    simp only [toDL] at e
    split at e
    · rename_i d ds' e1 e2
      cases e
      obtain ⟨a, b, c⟩ := small_ok s.1 e1
      obtain ⟨a', b', c'⟩ := smallL_ok s.2 e2
      exact ⟨by simp [PyData.showableAll, a, a'], by simp [PyData.hasDictAll, b, b'], by simp [PyData.leavesShortAll, c, c']⟩
    · cases e
end
def PD.isSq : PD → Bool
  | .lst _ => true
  | .tup _ => true
  | _ => false
def fRepr : List OD → Option OD
  | [d] => match d.toP.toD with
    | some D => if d.toP.isSq = true ∧ d.toP.small = true ∧ D.bulk ≤ 1048576 ∧ D.depth ≤ 60 then some (.pl (.str D.shown)) else none
    | none => none
  | _ => none
section
variable {X : Cx} {T : Tb} {W : WX} {Z : Addr → Prop} {H : Hp} {v : V} {B B0 : List Addr} {d : OD}
/-- repr(x) of lists, tuples of small numbers, where no repr is under way -/
def rRepr (T : Tb) : List V → Hp → VK → Prop := fun xs H Q => ∃ (a : Addr) (p : PD) (D : PyData), xs = [.ref a] ∧ Vw T (fun _ => True) H p (.ref a) ∧ p.toD = some D ∧ p.small = true ∧ D.bulk ≤ 1048576 ∧ D.depth ≤ 60 ∧ Q (.str D.shown) H
theorem call_repr2 {k : Nat} (hg : X.A.guards = some []) (hr : Room k X.A) : CallR X (.builtin "repr") (rRepr T) := by
  intro pins s σ H xs us Q I r h
  obtain ⟨a, p, D, rfl, hv, e, sm, hb, hd, q⟩ := h
  cases r with
  | cons ra rr =>
    cases rr
    cases ra
    obtain ⟨as, ra⟩ := reads_of I.hok hv (show RelV (.ref a) (.ref a) from rfl) e
    obtain ⟨s1, s2, s3⟩ := small_ok sm e
    refine repr_of_reads' ra s1 (fun z => by rw [s2] at z; cases z) hg (by have := hr.units; omega) (fun _ _ e => e) (fun h' u tk hk => ?_) (PyData.shown_fits_bulk (B := 13) (by decide) (by decide) s3 hb)
    exact ⟨.str D.shown, H, I.kept (t' := tk) hk, ⟨_, rfl⟩, q⟩
theorem c_repr : Cal T (rRepr T) fRepr := fun Z H xs l d B Q zx h nd nz e q => by
  unfold fRepr at e
  split at e
  · rename_i d1
    obtain ⟨x, rfl, hx⟩ := h.one1
    split at e
    · rename_i D e1
      split at e
      · rename_i c
        cases e
        have w := hx.all
        have : ∃ a, x = .ref a := by
          cases e2 : d1.toP with
          | lst l => rw [e2] at w; simp only [Vw] at w; obtain ⟨a, xs, rfl, _⟩ := w; exact ⟨a, rfl⟩
          | tup l => rw [e2] at w; simp only [Vw] at w; obtain ⟨a, xs, rfl, _⟩ := w; exact ⟨a, rfl⟩
          | _ => rw [e2] at c; cases c.1
        obtain ⟨a, rfl⟩ := this
        exact ⟨a, _, D, rfl, w, e1, c.2.1, c.2.2.1, c.2.2.2, q _ Z H [] (Ny.flat zx (vw_str T Z H)) fun _ => rfl⟩
      · cases e
    · cases e
  · cases e
end
end Rq
end

section
set_option Elab.async false
set_option linter.all false
set_option maxRecDepth 100000
set_option maxHeartbeats 2000000
namespace Rq
open PySem PySem.Spec PyProof.Rows L2

/-! ## the law is called where no repr is under way -/
/-- no list stands in the written part -/
def noL (K : PySem.W.Frag) : Bool := K.all fun p => match p.2.cls with
  | .type t => t != "list"
  | _ => true
theorem noL_ok {K : PySem.W.Frag} (h : noL K = true) {a : Addr} {o : Obj} (e : K.lookup a = some o) : o.cls ≠ .type "list" := fun z => by
  unfold noL at h
  rw [List.all_eq_true] at h
  have key : ∀ l : PySem.W.Frag, l.lookup a = some o → (a, o) ∈ l := fun l => by
    induction l with
    | nil => intro e; cases e
    | cons p l ih =>
      intro e
      obtain ⟨b, u⟩ := p
      simp only [List.lookup] at e
      split at e
      · rename_i c
        cases e
        have : a = b := by simpa using c
        subst this
        exact List.mem_cons_self
      · exact List.mem_cons_of_mem _ (ih e)
  have q := h _ (key K e)
  simp only [z] at q
  exact absurd q (by decide)
theorem law_run {P : Program} {w : World} {K : PySem.W.Frag} {mg mb : Str → Option Value} {CX : CXT} {k : Nat} {fa a : Addr} {fd : FuncData} {x : Str} {sp : Sp} {s1 : Shared} {vs : List Value} {ns : List Int}
    (KX : K.In s1.heap) (hns : s1.heap.Ns mainGlobals mg) (hb : s1.heap.Ns builtinsNs mb) (hbb : ∀ x : Str, x ≠ "__name__" → mb x = bootBuiltins x) (hlim : s1.heap.NoLimit) (hg : s1.gens = #[])
    (ha : s1.heap.get? a = some { cls := .type "list", data := .seq vs.toArray }) (hi : IntsAre vs ns) (hl : ns.length ≤ sizeLine) (hr : Room k callerA)
    (F : ∀ base : Heap, K.In base → base.Ns mainGlobals mg → FnG P w K mg base CX k fa fd [x] sp) (hbind : ∀ (s : Shared) (u : Value), BindsTo s fd ⟨[u], []⟩ [(x, u)])
    (hKL : noL K = true) (hsp : ∀ H : Hp, Only H → Rd H a (.lst (ns.map V.int)) → sp [.ref a] H (fun v _ => v = .bl true) fun _ _ _ => False)
    (hCX : ∀ H e s', CX [] H s1 (fun _ _ _ => False) e s' → False) :
    codeAny (model P w) callerA (.call (.ref fa) ⟨[.ref a], []⟩) (fun r s' => r = .ok (.ret (.bool true)) ∧ OldK s1.heap s'.heap ∧ s'.os = s1.os ∧ AllBare s'.gens) s1 := by
  have rv := vals_ints hi
  -- H: what is tracked: at most the script
  suffices core : ∀ H : Hp, Only H → Rd H a (.lst (ns.map V.int)) → HOk P w H s1.heap → (∀ b, H b ≠ none → b = a ∧ K.lookup a = none) →
      codeAny (model P w) callerA (.call (.ref fa) ⟨[.ref a], []⟩) (fun r s' => r = .ok (.ret (.bool true)) ∧ OldK s1.heap s'.heap ∧ s'.os = s1.os ∧ AllBare s'.gens) s1 by
    cases hk : K.lookup a with
    | some o =>
      have e := KX a o hk
      rw [ha] at e
      cases e
      exact absurd rfl (noL_ok hKL hk)
    | none =>
      have at_a : ∀ {b : Addr} {u : HO}, (if b = a then some (HO.frz { cls := .type "list", data := .seq vs.toArray } (.lst (ns.map V.int))) else none) = some u → b = a ∧ u = HO.frz { cls := .type "list", data := .seq vs.toArray } (.lst (ns.map V.int)) := fun {b u} z => by
        by_cases c : b = a
        · rw [if_pos c] at z
          exact ⟨c, (Option.some.inj z).symm⟩
        · rw [if_neg c] at z
          cases z
      refine core (fun b => if b = a then some (.frz { cls := .type "list", data := .seq vs.toArray } (.lst (ns.map V.int))) else none) (fun b => ?_) (.inr ⟨_, if_pos rfl⟩) (fun b u z => ?_) (fun b z => ?_)
      · by_cases c : b = a
        · exact .inr ⟨_, _, if_pos c⟩
        · exact .inl (if_neg c)
      · obtain ⟨rfl, rfl⟩ := at_a z
        exact ⟨ha, by rw [List.length_map]; exact hl, vs, _, rv, ha⟩
      · refine ⟨?_, hk⟩
        by_cases c : b = a
        · exact c
        · exact absurd (if_neg c) z
  intro H hO hS hok hA
  have free : ∀ {b : Addr} {o : Obj}, s1.heap.get? b = some o → (∀ es : Array Value, ∀ n, o.data ≠ .seq es n) → H b = none := fun {b o} e d => by
    cases q : H b with
    | none => rfl
    | some u =>
      have e' := (hA b (by rw [q]; simp)).1
      subst e'
      rw [ha] at e; cases e
      exact absurd rfl (d _ _)
  have nsK : ∀ {b : Addr} {m : Str → Option Value}, s1.heap.Ns b m → (hidT s1.heap H).Ns b m := fun {b m} ⟨o, es, ep, e, d, r⟩ => ⟨o, es, ep, hidT_get e (free e fun _ _ z => by rw [d] at z; cases z), d, r⟩
  have hKb : K.In (hidT s1.heap H) := fun b o e => hidT_get (KX b o e) (by
    cases q : H b with
    | none => rfl
    | some u =>
      obtain ⟨rfl, n⟩ := hA b (by rw [q]; simp)
      rw [n] at e; cases e)
  have e0 : Env0 P w K mg (hidT s1.heap H) callerA [] s1 H := ⟨rfl, ⟨hKb, nsK hns, ⟨mb, nsK hb, hbb⟩, let ⟨mc, h1, h2⟩ := hlim; ⟨mc, nsK h1, h2⟩⟩, fun b o e => of_hidT e, Nat.le_of_eq (hidT_size _ _), trivial, fun b hb => absurd (show b ∈ ([] : List Addr) from hb) (by simp), hok, .of_eq hg⟩
  refine codeAny_mono ((F _ hKb (nsK hns)).run callerA [] s1 H ⟨[.ref a], []⟩ [.ref a] [.ref a] _ _ hr rfl e0 (hbind s1 (.ref a)) (.cons rfl .nil) (hsp H hO hS)) fun r s' h => ?_
  cases r with
  | error e => exact (hCX H e s' h).elim
  | ok fl =>
    cases fl with
    | next => exact False.elim h
    | brk => exact False.elim h
    | cont => exact False.elim h
    | ret u =>
      obtain ⟨v, H', os, bare, un, hok', r', q⟩ := h
      obtain rfl : v = .bl true := q
      obtain rfl : u = Value.bool true := r'
      refine ⟨rfl, .of_keep fun b o e => ?_, os, bare⟩
      rcases hO b with z | ⟨ob, xs, z⟩
      · exact un.keep b o e z (fun z => absurd (show b ∈ ([] : List Addr) from z) (by simp)) (by simp)
      · obtain ⟨e1, _⟩ := hok b _ z
        obtain ⟨e2, _⟩ := hok' b _ (un.frzs b ob _ z)
        rw [e] at e1; cases e1
        exact e2
theorem walk_G {l : PySem.W.OpenLaw} {n k : Nat} {q : Program} {loose : List Str} {XP : (Str → Option Value) → Heap → Prop} {YP : World → Heap → Prop} {d : DefRec} {K : Params → PySem.W.Frag} {sp : Sp} {x : Str}
    (hn : l.most = some n) (hn2 : n ≤ sizeLine) (hdf : d.params.defaults = []) (hr : Room k callerA)
    (hY : ∀ (w : World) (h : Heap), YP w h → (K w.params).In h)
    (F : ∀ (w : World) (mg : Str → Option Value) (fa : Addr) (h : Heap), (K w.params).In h → h.Ns mainGlobals mg → mg d.name = some (.ref fa) →
      ∃ fd : FuncData, (∀ (s : Shared) (u : Value), BindsTo s fd ⟨[u], []⟩ [(x, u)]) ∧
        ∀ base : Heap, (K w.params).In base → base.Ns mainGlobals mg → FnG l.prog w (K w.params) mg base (L2.CX l.prog w) k fa fd [x] sp)
    (hKL : ∀ w : World, noL (K w.params) = true)
    (hsp : ∀ (H : Hp) (a : Addr) (ns : List Int), ns.length ≤ n → Only H → Rd H a (.lst (ns.map V.int)) → sp [.ref a] H (fun v _ => v = .bl true) fun _ _ _ => False) :
    PySem.W.WalkO q loose XP YP l.row.toRowW d [] (fun f vs => PySem.call f vs) := by
  refine Att.attach_call hn hdf fun w s₀ s1 mg mb fa o pm cd doc a vs ns G Y ho hd hcd hmg hobj hints hlen hg => ?_
  have KX := hY w _ Y
  obtain ⟨fd, hb, hF⟩ := F w mg fa _ KX G.T.g hmg
  exact law_run KX G.T.g G.T.b G.T.builtins G.T.nolimit hg hobj hints (Nat.le_trans hlen hn2) hr hF hb (hKL w) (fun H hO hS => hsp H a ns hlen hO hS) fun H e s' h => by
    obtain ⟨_, _, _, _, _, _, _, _, _, _, _, _, z⟩ := h
    exact z
end Rq
end

section
set_option Elab.async false
set_option linter.all false
set_option maxRecDepth 100000
set_option maxHeartbeats 2000000
namespace Rq
open PySem PySem.Spec PyProof.Rows L2

/-! ## what the printed rules name -/
/-- a def of the module -/
structure Df (K : PySem.W.Frag) (mg : Str → Option Value) (T : Tb) (j : Nat) (x : Str) (st : Stmt) : Prop where
  mg : mg x = some (.ref (T.adr j))
  fn : ∃ fd, Fun K x x st (T.adr j) fd
structure OkF (P : Program) (w : World) (K : PySem.W.Frag) (mg : Str → Option Value) (base : Heap) (T : Tb) (k j : Nat) (ps : List Str) (g : List OD → Rs) : Prop where
  ex : ∃ fd, FnOk P w K mg base (L2.CX P w) k (T.adr j) fd ps (spF T g) ∧ PySem.W.keepIn K (.ref (T.adr j)) = true ∧ Binds K fd ps []
section
variable {X : Cx} {T : Tb} {W : WX} {P : Program} {w : World} {K : PySem.W.Frag} {mg : Str → Option Value} {base : Heap}
theorem passF {CX : CXT} (h : ∀ o H s e s', CX o H s (fun _ _ _ => False) e s' → False) : Passes CX X (fun _ _ _ => False) := fun _ _ _ _ _ _ _ z => (h _ _ _ _ _ z).elim
theorem cx_no {o : List Env} {H : Hp} {s : Shared} {e : Value} {s' : Shared} (h : L2.CX P w o H s (fun _ _ _ => False) e s') : False := by
  obtain ⟨_, _, _, _, _, _, _, _, _, _, _, _, z⟩ := h
  exact z
theorem pv_callG {k j : Nat} {ps : List Str} {g : List OD → Rs} {x : Str} {e : Expr} {es : List Expr} {m : AV} {p pos : Pos} (O : OkF X.prog X.w X.K X.mg X.base T k j ps g) (hr : Room k X.A) (hg : Gl X x) (hm : X.mg x = some (.ref (T.adr j))) (ha : PA X (e :: es) (tAV T m))
    (hdb : (x == ("__debug__" : Str)) = false := by decide) (he : starEach (e :: es) X.env = (false, eval e X.env) :: starEach es X.env := by rfl) (hpl : (backTo pos (starEach es X.env)).any (·.1) = false := by rfl) : PE X (.Call (.Name x p) (e :: es) [] pos) (tV T (vCall g m)) := by
  obtain ⟨fd, F, hk, hb⟩ := O.ex
  exact pe_imp (pe_call F hr hg hm hk hb .nil (passF fun _ _ _ _ _ => cx_no) ha hdb he hpl) fun σ H Q q => t_call q
theorem pe_callG {k j : Nat} {ps : List Str} {g : List OD → Rs} {x : Str} {e : Expr} {es : List Expr} {as : List Ag} {p pos : Pos} (O : OkF X.prog X.w X.K X.mg X.base T k j ps g) (tk : Takes X W) (hr : Room k X.A) (hg : Gl X x) (hm : X.mg x = some (.ref (T.adr j))) (ha : PA X (e :: es) (tAE T W as))
    (hdb : (x == ("__debug__" : Str)) = false := by decide) (he : starEach (e :: es) X.env = (false, eval e X.env) :: starEach es X.env := by rfl) (hpl : (backTo pos (starEach es X.env)).any (·.1) = false := by rfl) : PE X (.Call (.Name x p) (e :: es) [] pos) (tE T W (eCall g as)) := by
  obtain ⟨fd, F, hk, hb⟩ := O.ex
  exact pe_imp (pe_callS F hr hg hm hk hb (fun σ => passAt tk σ) ha hdb he hpl) fun σ H Q q => t_callE q
def vNever : VM := fun _ => none
theorem pv_never {e : Expr} : PE X e (tV T vNever) := ⟨fun pins s σ H Q I h => by
  obtain ⟨Z, F, ρ, d, E, e1, q⟩ := h
  cases e1⟩
theorem room64 {k : Nat} {A : Around} (h : Room k A) : A.units + 64 < cLine := by have := h.un; omega
theorem room65 {k : Nat} {A : Around} (h : Room k A) : A.units + 65 < cLine := by have := h.un; omega
/-- a block's names, held by a computation -/
def boB (N : List Str) (sc scope : Scope) (own : List (Str × Nat)) : Bool :=
  (scope.kind == .function) && (scope.names.all fun y => scope.names.lookup y.1 == some y.2) && (own.all fun p => N[p.2]? == some p.1) && (scope.names.all fun y => y.2 != .free || (sc.names.lookup y.1 == some .cell || sc.names.lookup y.1 == some .free)) &&
  (scope.names.all fun y => !(y.2 == .local || y.2 == .cell) || ((own.map (·.1)).contains y.1 || !N.contains y.1))
theorem bo_mk {N : List Str} {sc scope : Scope} {own : List (Str × Nat)} (h : boB N sc scope own = true) : BlkOk N sc scope own := by
  unfold boB at h
  simp only [Bool.and_eq_true, List.all_eq_true, Bool.or_eq_true, beq_iff_eq, bne_iff_ne, ne_eq, Bool.not_eq_true', Bool.or_eq_false_iff, beq_eq_false_iff_ne, List.contains_eq_mem, decide_eq_true_eq, decide_eq_false_iff_not] at h
  obtain ⟨⟨⟨⟨h1, h2⟩, h3⟩, h4⟩, h5⟩ := h
  refine ⟨h1, fun y hy => h2 y hy, fun p hp => h3 p hp, fun y hy e => (h4 y hy).resolve_left (fun n => n e), fun y hy e => ?_⟩
  rcases h5 y hy with ⟨n1, n2⟩ | n
  · rcases e with e | e
    · exact absurd e n1
    · exact absurd e n2
  · exact n
theorem okF_mk {N : Nat} {j k : Nat} {x : Str} {st : Stmt} {ps Ns : List Str} {ln : List Nat} {b : SM} (D : Df K mg T j x st) (S : FnScope Ns ps (defScope st))
    (hb : ∀ (cdv : Value) (A : Around) (outer : List Env) (s : Shared) (H : Hp) (E : XK), Room k (A.deeper (envOfC x (defScope st) s.heap.objs.size (T.adr j) cdv)) → PSs (cxOf (L2.CX P w) P w K mg base Ns x (defScope st) (T.adr j) cdv A outer s H E) (defBody st) (tS T (fun c d _ H' => E c d H') ln b))
    (hn : ps.length = N) (hbi : ∀ (kV doc pm : Value) (an : Option Addr) (cdv ct : Value) (us : List Value), us.length = ps.length → bindArgs (PySem.W.fnOf x x (defArgs st) (defBody st) (defScope st) .none kV doc pm an cdv ct) ⟨us, []⟩ = pure (ps.zip us)) :
    OkF P w K mg base T (k + 1) j ps (runD N Ns.length ln b) := by
  obtain ⟨fd, F⟩ := D.fn
  subst hn
  exact ⟨fd, fn_ok F S hb, F.kp, F.binds hbi⟩
/-- nothing is promised -/
theorem okF_st {N : Nat} {j k : Nat} {x : Str} {st : Stmt} {ps : List Str} (D : Df K mg T j x st) (hbi : ∀ (kV doc pm : Value) (an : Option Addr) (cdv ct : Value) (us : List Value), us.length = ps.length → bindArgs (PySem.W.fnOf x x (defArgs st) (defBody st) (defScope st) .none kV doc pm an cdv ct) ⟨us, []⟩ = pure (ps.zip us)) :
    OkF P w K mg base T k j ps (fun _ => .st) := by
  obtain ⟨fd, F⟩ := D.fn
  have no : ∀ vs H Q E, spF T (fun _ => .st) vs H Q E → False := fun vs H Q E h => by
    obtain ⟨_, _, _, _, _, q⟩ := h
    exact q
  exact ⟨fd, ⟨fun vs H Q E h => (no vs H Q E h).elim, fun A outer s H args us vs Q E _ _ _ _ h => (no vs H Q E h).elim⟩, F.kp, F.binds hbi⟩
theorem OkF.mono {j k k' : Nat} {ps : List Str} {g : List OD → Rs} (h : OkF P w K mg base T k j ps g) (le : k ≤ k') : OkF P w K mg base T k' j ps g := by
  obtain ⟨fd, F, q⟩ := h.ex
  exact ⟨fd, F.mono le, q⟩
end
end Rq
end

section
set_option Elab.async false
set_option linter.all false
set_option maxRecDepth 100000
set_option maxHeartbeats 4000000
namespace Lw
open PySem PySem.Spec PyProof.Rows L2 Rq
def top (i : Nat) : Stmt := PySem.Challenge.pw_surerota_k69_turning_refused.main.body.getD i (.Pass ⟨0, 0, 0, 0⟩)
/-- the class k is the one of the number n -/
def isx (n k : Nat) : Bool := k == n
abbrev s_is_whole : Stmt := top 8
abbrev s_is_count : Stmt := top 9
abbrev s_is_below : Stmt := top 10
abbrev s_is_row_of : Stmt := top 11
abbrev s_order_of : Stmt := top 14
abbrev s_is_group : Stmt := top 15
abbrev s_check_group : Stmt := top 16
abbrev s_turns_in : Stmt := top 17
abbrev s_turns_of : Stmt := top 18
abbrev s_plus_of : Stmt := top 19
abbrev s_minus_of : Stmt := top 20
abbrev s_sum_in : Stmt := top 21
abbrev s_is_turn_of : Stmt := top 22
abbrev s_are_turns_of : Stmt := top 23
abbrev s_check_turns : Stmt := top 24
abbrev s_sum_of_turns : Stmt := top 25
abbrev s_turning_rota : Stmt := top 26
abbrev s_chained : Stmt := top 27
abbrev s_dealt_with : Stmt := top 28
abbrev s_dealings : Stmt := top 29
abbrev s_is_dealing_of : Stmt := top 30
abbrev s_are_dealings : Stmt := top 31
abbrev s_jobs_told : Stmt := top 32
abbrev s_check_counts : Stmt := top 33
abbrev s_bar_of : Stmt := top 34
abbrev s_picks_bar : Stmt := top 35
abbrev s_picked_days : Stmt := top 36
abbrev s_are_picked_days : Stmt := top 37
abbrev s_is_turning_number : Stmt := top 38
abbrev s_turn_numbered : Stmt := top 39
abbrev s__law_hash : Stmt := top 41
abbrev s__law_random : Stmt := top 42
abbrev s__law_cell : Stmt := top 43
abbrev s__law_generator : Stmt := top 44
abbrev s__law_pick : Stmt := top 45
abbrev s__law_same : Stmt := top 46
abbrev s__law_call : Stmt := top 47
abbrev s__law_mark : Stmt := top 48
abbrev s__law_raised : Stmt := top 49
abbrev s__law_refused : Stmt := top 50
abbrev s__law_all_refused : Stmt := top 51
abbrev s__law_turns : Stmt := top 52
abbrev s__law_drawn_group : Stmt := top 53
abbrev s__law_is_kind : Stmt := top 54
abbrev s__law_wrong_turns : Stmt := top 55
abbrev s_law : Stmt := top 56
structure Gx (P : Program) (K : PySem.W.Frag) (mg : Str → Option Value) (T : Tb) : Prop where
  b_bool : mg "bool" = none
  b_enumerate : mg "enumerate" = none
  b_int : mg "int" = none
  b_isinstance : mg "isinstance" = none
  b_len : mg "len" = none
  b_list : mg "list" = none
  b_max : mg "max" = none
  b_range : mg "range" = none
  b_repr : mg "repr" = none
  b_str : mg "str" = none
  b_sum : mg "sum" = none
  b_tuple : mg "tuple" = none
  d_is_whole : Df K mg T 0 "is_whole" s_is_whole
  d_is_count : Df K mg T 1 "is_count" s_is_count
  d_is_below : Df K mg T 2 "is_below" s_is_below
  d_is_row_of : Df K mg T 3 "is_row_of" s_is_row_of
  d_order_of : Df K mg T 4 "order_of" s_order_of
  d_is_group : Df K mg T 5 "is_group" s_is_group
  d_check_group : Df K mg T 6 "check_group" s_check_group
  d_turns_in : Df K mg T 7 "turns_in" s_turns_in
  d_turns_of : Df K mg T 8 "turns_of" s_turns_of
  d_plus_of : Df K mg T 9 "plus_of" s_plus_of
  d_minus_of : Df K mg T 10 "minus_of" s_minus_of
  d_sum_in : Df K mg T 11 "sum_in" s_sum_in
  d_is_turn_of : Df K mg T 12 "is_turn_of" s_is_turn_of
  d_are_turns_of : Df K mg T 13 "are_turns_of" s_are_turns_of
  d_check_turns : Df K mg T 14 "check_turns" s_check_turns
  d_sum_of_turns : Df K mg T 15 "sum_of_turns" s_sum_of_turns
  d_turning_rota : Df K mg T 16 "turning_rota" s_turning_rota
  d_chained : Df K mg T 17 "chained" s_chained
  d_dealt_with : Df K mg T 18 "dealt_with" s_dealt_with
  d_dealings : Df K mg T 19 "dealings" s_dealings
  d_is_dealing_of : Df K mg T 20 "is_dealing_of" s_is_dealing_of
  d_are_dealings : Df K mg T 21 "are_dealings" s_are_dealings
  d_jobs_told : Df K mg T 22 "jobs_told" s_jobs_told
  d_check_counts : Df K mg T 23 "check_counts" s_check_counts
  d_bar_of : Df K mg T 24 "bar_of" s_bar_of
  d_picks_bar : Df K mg T 25 "picks_bar" s_picks_bar
  d_picked_days : Df K mg T 26 "picked_days" s_picked_days
  d_are_picked_days : Df K mg T 27 "are_picked_days" s_are_picked_days
  d_is_turning_number : Df K mg T 28 "is_turning_number" s_is_turning_number
  d_turn_numbered : Df K mg T 29 "turn_numbered" s_turn_numbered
  d__law_hash : Df K mg T 30 "_law_hash" s__law_hash
  d__law_random : Df K mg T 31 "_law_random" s__law_random
  d__law_cell : Df K mg T 32 "_law_cell" s__law_cell
  d__law_generator : Df K mg T 33 "_law_generator" s__law_generator
  d__law_pick : Df K mg T 34 "_law_pick" s__law_pick
  d__law_same : Df K mg T 35 "_law_same" s__law_same
  d__law_call : Df K mg T 36 "_law_call" s__law_call
  d__law_mark : Df K mg T 37 "_law_mark" s__law_mark
  d__law_raised : Df K mg T 38 "_law_raised" s__law_raised
  d__law_refused : Df K mg T 39 "_law_refused" s__law_refused
  d__law_all_refused : Df K mg T 40 "_law_all_refused" s__law_all_refused
  d__law_turns : Df K mg T 41 "_law_turns" s__law_turns
  d__law_drawn_group : Df K mg T 42 "_law_drawn_group" s__law_drawn_group
  d__law_is_kind : Df K mg T 43 "_law_is_kind" s__law_is_kind
  d__law_wrong_turns : Df K mg T 44 "_law_wrong_turns" s__law_wrong_turns
  d_law : Df K mg T 45 "law" s_law
  x_InvalidTable : ∃ C, mg "InvalidTable" = some (.ref C) ∧ T.cls 0 = .ref C ∧ XcT P K C
  x_InvalidNumber : ∃ C, mg "InvalidNumber" = some (.ref C) ∧ T.cls 1 = .ref C ∧ XcT P K C
  x_InvalidGroup : ∃ C, mg "InvalidGroup" = some (.ref C) ∧ T.cls 2 = .ref C ∧ XcT P K C
  x_InvalidCounts : ∃ C, mg "InvalidCounts" = some (.ref C) ∧ T.cls 3 = .ref C ∧ XcT P K C
  x_Barred : ∃ C, mg "Barred" = some (.ref C) ∧ T.cls 4 = .ref C ∧ XcT P K C
  xr : ∀ k, XcR K (T.cls k)
  i_InvalidTable : ∀ C, mg "InvalidTable" = some (.ref C) → ∀ k, ∃ D, T.cls k = .ref D ∧ ExcC K D ∧ PySem.W.kitOne K (.ref D) (.ref C) = some (isx 0 k)
  i_InvalidNumber : ∀ C, mg "InvalidNumber" = some (.ref C) → ∀ k, ∃ D, T.cls k = .ref D ∧ ExcC K D ∧ PySem.W.kitOne K (.ref D) (.ref C) = some (isx 1 k)
  i_InvalidGroup : ∀ C, mg "InvalidGroup" = some (.ref C) → ∀ k, ∃ D, T.cls k = .ref D ∧ ExcC K D ∧ PySem.W.kitOne K (.ref D) (.ref C) = some (isx 2 k)
  i_InvalidCounts : ∀ C, mg "InvalidCounts" = some (.ref C) → ∀ k, ∃ D, T.cls k = .ref D ∧ ExcC K D ∧ PySem.W.kitOne K (.ref D) (.ref C) = some (isx 3 k)
  i_Barred : ∀ C, mg "Barred" = some (.ref C) → ∀ k, ∃ D, T.cls k = .ref D ∧ ExcC K D ∧ PySem.W.kitOne K (.ref D) (.ref C) = some (isx 4 k)
  e_RotaError : ∃ R, mg "RotaError" = some (.ref R) ∧ ∀ k ∈ [0, 1, 2, 3, 4], PySem.W.exmOne K (T.cls k) (.ref R) = some true
  c_LARGEST_GROUP : ∃ t, mg "LARGEST_GROUP" = some (.int 16 t)
section
variable {P : Program} {w : World} {K : PySem.W.Frag} {mg : Str → Option Value} {base : Heap} {T : Tb}
theorem sc_is_whole : FnScope ["value"] ["value"] (defScope s_is_whole) := ⟨rfl, rfl, rfl, by decide +kernel, rfl, by decide +kernel, by decide +kernel⟩
def b_is_whole : SM :=
  (bRet (eV (vAnd (vIsi ["int"] (vVar 0)) (vNot (vIsi ["bool"] (vVar 0))))))
def r_is_whole : List OD → Rs := runD 1 1 [] (b_is_whole)
theorem ok_is_whole (G : Gx P K mg T) : OkF P w K mg base T 3 0 ["value"] (r_is_whole) := by
  exact okF_mk G.d_is_whole sc_is_whole (fun cdv A outer s H E hr => (fs_one (fs_ret (pe_eV (pv_and (pv_isi (c := "int") (pv_var (pv 0)) rfl G.b_isinstance rfl G.b_int (by decide +kernel) (by decide)) (pv_one (pv_not (pv_isi (c := "bool") (pv_var (pv 0)) rfl G.b_isinstance rfl G.b_bool (by decide +kernel) (by decide))))))))) rfl (fun _ _ _ _ _ _ us hl => match us, hl with | [_], _ => rfl)
theorem sc_is_count : FnScope ["value"] ["value"] (defScope s_is_count) := ⟨rfl, rfl, rfl, by decide +kernel, rfl, by decide +kernel, by decide +kernel⟩
def b_is_count : SM :=
  (bRet (eV (vAnd (vCall r_is_whole (vCons (vVar 0) vNil)) (v2 (fI2 iGe) (vVar 0) (vC (.int 0))))))
def r_is_count : List OD → Rs := runD 1 1 [] (b_is_count)
theorem ok_is_count (G : Gx P K mg T) (O_is_whole : OkF P w K mg base T 3 0 ["value"] (r_is_whole)) : OkF P w K mg base T 4 1 ["value"] (r_is_count) := by
  exact okF_mk G.d_is_count sc_is_count (fun cdv A outer s H E hr => (fs_one (fs_ret (pe_eV (pv_and (pv_callG O_is_whole (hr.mono (by decide)) rfl G.d_is_whole.mg (fa_cons (pv_var (pv 0)) fa_nil)) (pv_one (pv_cmp op_ge o_ge (pv_var (pv 0)) pv_int (nomark _)))))))) rfl (fun _ _ _ _ _ _ us hl => match us, hl with | [_], _ => rfl)
theorem sc_is_below : FnScope ["value", "bound"] ["value", "bound"] (defScope s_is_below) := ⟨rfl, rfl, rfl, by decide +kernel, rfl, by decide +kernel, by decide +kernel⟩
def b_is_below : SM :=
  (bRet (eV (vAnd (vCall r_is_count (vCons (vVar 0) vNil)) (v2 (fI2 iLt) (vVar 0) (vVar 1)))))
def r_is_below : List OD → Rs := runD 2 2 [] (b_is_below)
theorem ok_is_below (G : Gx P K mg T) (O_is_count : OkF P w K mg base T 4 1 ["value"] (r_is_count)) : OkF P w K mg base T 5 2 ["value", "bound"] (r_is_below) := by
  exact okF_mk G.d_is_below sc_is_below (fun cdv A outer s H E hr => (fs_one (fs_ret (pe_eV (pv_and (pv_callG O_is_count (hr.mono (by decide)) rfl G.d_is_count.mg (fa_cons (pv_var (pv 0)) fa_nil)) (pv_one (pv_cmp op_lt o_lt (pv_var (pv 0)) (pv_var (pv 1)) (nomark _)))))))) rfl (fun _ _ _ _ _ _ us hl => match us, hl with | [_, _], _ => rfl)
theorem sc_is_row_of : FnScope ["wide", "value", "count"] ["wide", "value"] (defScope s_is_row_of) := ⟨rfl, rfl, rfl, by decide +kernel, rfl, by decide +kernel, by decide +kernel⟩
def b_is_row_of : SM :=
  (bRet (eV (vAnd (vIsi ["list"] (vVar 1)) (vAnd (v2 fEq (vCal fLen (vCons (vVar 1) vNil)) (vVar 0)) (v2 fEq (vLc (sSeq (vVar 1)) (gN 2) (vNot (vCall r_is_count (vCons (vVar 2) vNil))) (vVar 2) [2]) (vLst vNil))))))
def r_is_row_of : List OD → Rs := runD 2 3 [] (b_is_row_of)
theorem ok_is_row_of (G : Gx P K mg T) (O_is_count : OkF P w K mg base T 4 1 ["value"] (r_is_count)) : OkF P w K mg base T 5 3 ["wide", "value"] (r_is_row_of) := by
  exact okF_mk G.d_is_row_of sc_is_row_of (fun cdv A outer s H E hr => (fs_one (fs_ret (pe_eV (pv_and (pv_isi (c := "list") (pv_var (pv 1)) rfl G.b_isinstance rfl G.b_list (by decide +kernel) (by decide)) (pv_and (pv_cmp (op_eqD (room64 hr)) o_eq (pv_cal call_len c_len rfl G.b_len (by decide +kernel) (fa_cons (pv_var (pv 1)) fa_nil)) (pv_var (pv 0)) (nomark _)) (pv_one (pv_cmp (op_eqD (room64 hr)) o_eq (pv_lc (own := [(Str.ofString "count", 2)]) rfl rfl sc_is_row_of.nd (piv_seq (pv_var (pv 1))) (bo_mk rfl) (fun _ _ _ _ _ => (fg_name sc_is_row_of.nd rfl (by first | exact Or.inl rfl | exact Or.inr rfl) (by decide))) (fun _ _ _ _ _ => pts_one (ptv_not (pt_v (pv_callG O_is_count (hr.mono (by decide)) rfl G.d_is_count.mg (fa_cons (pv_var (pv 2)) fa_nil))))) (fun _ _ _ _ _ => (pv_var (pv 2)))) (pv_lst fa_nil) (nomark _))))))))) rfl (fun _ _ _ _ _ _ us hl => match us, hl with | [_, _], _ => rfl)
theorem sc_order_of : FnScope ["group", "order", "modulus"] ["group"] (defScope s_order_of) := ⟨rfl, rfl, rfl, by decide +kernel, rfl, by decide +kernel, by decide +kernel⟩
def b_order_of : SM :=
  (bSeq (bSet 1 (eF (eV (vC (.int 1)))))
  (bSeq (bFor (sSeqE (eV (vVar 0))) (gN 2)
  (bSet 1 (eF (eV (v2 fMul (vVar 1) (vVar 2))))))
  (bRet (eMove 1))))
def r_order_of : List OD → Rs := runD 1 3 [] (b_order_of)
theorem ok_order_of (G : Gx P K mg T) : OkF P w K mg base T 3 4 ["group"] (r_order_of) := by
  exact okF_mk G.d_order_of sc_order_of (fun cdv A outer s H E hr => (fs_cons (fs_set sc_order_of.nd rfl (by first | exact Or.inl rfl | exact Or.inr rfl) (by decide) (pe_eF (pe_eV pv_int)))
  (fs_cons (fs_for (vs := [2]) (passes_of rfl) rfl (pie_seq (pe_eV (pv_var (pv 0)))) (fg_name sc_order_of.nd rfl (by first | exact Or.inl rfl | exact Or.inr rfl) (by decide)) (by decide)
  (fs_one (fs_set sc_order_of.nd rfl (by first | exact Or.inl rfl | exact Or.inr rfl) (by decide) (pe_eF (pe_eV (pv_bin op_mul2 o_mul (pv_var (pv 1)) (pv_var (pv 2))))))))
  (fs_one (fs_ret (pe_move (pv 1))))))) rfl (fun _ _ _ _ _ _ us hl => match us, hl with | [_], _ => rfl)
theorem sc_is_group : FnScope ["value", "modulus"] ["value"] (defScope s_is_group) := ⟨rfl, rfl, rfl, by decide +kernel, rfl, by decide +kernel, by decide +kernel⟩
def b_is_group : SM :=
  (bSeq (bIf (eV (vOr (vNot (vIsi ["list"] (vVar 0))) (v2 fNe (vLc (sSeq (vVar 0)) (gN 1) (vOr (vNot (vCall r_is_whole (vCons (vVar 1) vNil))) (v2 (fI2 iLt) (vVar 1) (vC (.int 2)))) (vVar 1) [1]) (vLst vNil))))
  (bRet (eV (vC (.bl false))))
  bNil)
  (bRet (eV (vAnd (v2 (fI2 iLe) (vCal fLen (vCons (vVar 0) vNil)) (vC (.int 4))) (v2 (fI2 iLe) (vCall r_order_of (vCons (vVar 0) vNil)) (vC (.int 16)))))))
def r_is_group : List OD → Rs := runD 1 2 [] (b_is_group)
theorem ok_is_group (G : Gx P K mg T) (O_is_whole : OkF P w K mg base T 3 0 ["value"] (r_is_whole)) (O_order_of : OkF P w K mg base T 3 4 ["group"] (r_order_of)) : OkF P w K mg base T 4 5 ["value"] (r_is_group) := by
  obtain ⟨t_LARGEST_GROUP, hc_LARGEST_GROUP⟩ := G.c_LARGEST_GROUP
  exact okF_mk G.d_is_group sc_is_group (fun cdv A outer s H E hr => (fs_cons (fs_if (ptE (PW.pt (pwv_or (ptv_not (pt_v (pv_isi (c := "list") (pv_var (pv 0)) rfl G.b_isinstance rfl G.b_list (by decide +kernel) (by decide)))) (pwv_or1 (ptv_cmp (op_neD (room64 hr)) o_ne (pv_lc (own := [(Str.ofString "modulus", 1)]) rfl rfl sc_is_group.nd (piv_seq (pv_var (pv 0))) (bo_mk rfl) (fun _ _ _ _ _ => (fg_name sc_is_group.nd rfl (by first | exact Or.inl rfl | exact Or.inr rfl) (by decide))) (fun _ _ _ _ _ => pts_one (PW.pt (pwv_or (ptv_not (pt_v (pv_callG O_is_whole (hr.mono (by decide)) rfl G.d_is_whole.mg (fa_cons (pv_var (pv 1)) fa_nil)))) (pwv_or1 (ptv_cmp op_lt o_lt (pv_var (pv 1)) pv_int (nomark _)))))) (fun _ _ _ _ _ => (pv_var (pv 1)))) (pv_lst fa_nil) (nomark _))))))
  (fs_one (fs_ret (pe_eV pv_bl)))
  fs_nil)
  (fs_one (fs_ret (pe_eV (pv_and (pv_cmp op_le o_le (pv_cal call_len c_len rfl G.b_len (by decide +kernel) (fa_cons (pv_var (pv 0)) fa_nil)) pv_int (nomark _)) (pv_one (pv_cmp op_le o_le (pv_callG O_order_of (hr.mono (by decide)) rfl G.d_order_of.mg (fa_cons (pv_var (pv 0)) fa_nil)) (pv_gint rfl hc_LARGEST_GROUP ⟨_, rfl⟩) (nomark _))))))))) rfl (fun _ _ _ _ _ _ us hl => match us, hl with | [_], _ => rfl)
theorem sc_check_group : FnScope ["group"] ["group"] (defScope s_check_group) := ⟨rfl, rfl, rfl, by decide +kernel, rfl, by decide +kernel, by decide +kernel⟩
def b_check_group : SM :=
  (bIf (eV (vNot (vCall r_is_group (vCons (vVar 0) vNil))))
  (bRaise 2 (eV (vVar 0)))
  bNil)
def r_check_group : List OD → Rs := runD 1 1 [] (b_check_group)
theorem ok_check_group (G : Gx P K mg T) (O_is_group : OkF P w K mg base T 4 5 ["value"] (r_is_group)) : OkF P w K mg base T 5 6 ["group"] (r_check_group) := by
  obtain ⟨C_InvalidGroup, hm_InvalidGroup, hk_InvalidGroup, hx_InvalidGroup⟩ := G.x_InvalidGroup
  have hi_InvalidGroup := G.i_InvalidGroup _ hm_InvalidGroup
  exact okF_mk G.d_check_group sc_check_group (fun cdv A outer s H E hr => (fs_one (fs_if (ptE (ptv_not (pt_v (pv_callG O_is_group (hr.mono (by decide)) rfl G.d_is_group.mg (fa_cons (pv_var (pv 0)) fa_nil)))))
  (fs_one (fs_raise rfl (takes_of rfl rfl rfl rfl) hx_InvalidGroup (hr.mono (by decide)) rfl hm_InvalidGroup hk_InvalidGroup (pe_eV (pv_var (pv 0)))))
  fs_nil))) rfl (fun _ _ _ _ _ _ us hl => match us, hl with | [_], _ => rfl)
theorem sc_turns_in : FnScope ["group", "turns", "modulus", "turn", "number"] ["group"] (defScope s_turns_in) := ⟨rfl, rfl, rfl, by decide +kernel, rfl, by decide +kernel, by decide +kernel⟩
def b_turns_in : SM :=
  (bSeq (bSet 1 (eF (eV (vLst (vCons (vTup vNil) vNil)))))
  (bSeq (bFor (sSeqE (eV (vVar 0))) (gN 2)
  (bSet 1 (eV (vLc2 (sSeq (vVar 1)) (gN 3) (vC (.bl true)) (sR1K (vVar 2)) (gN 4) (vC (.bl true)) (v2 fAdd (vVar 3) (vTup (vCons (vVar 4) vNil))) [3, 4] [4]))))
  (bRet (eMove 1))))
def r_turns_in : List OD → Rs := runD 1 5 [] (b_turns_in)
theorem ok_turns_in (G : Gx P K mg T) : OkF P w K mg base T 3 7 ["group"] (r_turns_in) := by
  exact okF_mk G.d_turns_in sc_turns_in (fun cdv A outer s H E hr => (fs_cons (fs_set sc_turns_in.nd rfl (by first | exact Or.inl rfl | exact Or.inr rfl) (by decide) (pe_eF (pe_eV (pv_lst (fa_cons (pv_tup fa_nil) fa_nil)))))
  (fs_cons (fs_for (vs := [2]) (passes_of rfl) rfl (pie_seq (pe_eV (pv_var (pv 0)))) (fg_name sc_turns_in.nd rfl (by first | exact Or.inl rfl | exact Or.inr rfl) (by decide)) (by decide)
  (fs_one (fs_setLc2 (own := [(Str.ofString "turn", 3), (Str.ofString "number", 4)]) rfl (by decide) rfl sc_turns_in.nd rfl rfl (by decide) (sw_true rfl rfl rfl rfl) (piv_seq (pv_var (pv 1))) (bo_mk rfl) (fun _ _ _ _ _ => (fg_name sc_turns_in.nd rfl (by first | exact Or.inl rfl | exact Or.inr rfl) (by decide))) (fun _ _ _ _ _ => fts_nil) (fun _ _ _ _ _ => (pik_r1 (pv_var (pv 2)) rfl G.b_range)) (fun _ _ _ _ _ => (fg_name sc_turns_in.nd rfl (by first | exact Or.inl rfl | exact Or.inr rfl) (by decide))) (fun _ _ _ _ _ => fts_nil) (fun _ _ _ _ _ => (pv_bin op_add4 o_add (pv_var (pv 3)) (pv_tup (fa_cons (pv_var (pv 4)) fa_nil)))))))
  (fs_one (fs_ret (pe_move (pv 1))))))) rfl (fun _ _ _ _ _ _ us hl => match us, hl with | [_], _ => rfl)
theorem sc_turns_of : FnScope ["group"] ["group"] (defScope s_turns_of) := ⟨rfl, rfl, rfl, by decide +kernel, rfl, by decide +kernel, by decide +kernel⟩
def b_turns_of : SM :=
  (bSeq (bDrop (eCall r_check_group [.e (eV (vVar 0))]))
  (bRet (eV (vCall r_turns_in (vCons (vVar 0) vNil)))))
def r_turns_of : List OD → Rs := runD 1 1 [] (b_turns_of)
theorem ok_turns_of (G : Gx P K mg T) (O_check_group : OkF P w K mg base T 5 6 ["group"] (r_check_group)) (O_turns_in : OkF P w K mg base T 3 7 ["group"] (r_turns_in)) : OkF P w K mg base T 6 8 ["group"] (r_turns_of) := by
  exact okF_mk G.d_turns_of sc_turns_of (fun cdv A outer s H E hr => (fs_cons (fs_expr (pe_callG O_check_group (takes_of rfl rfl rfl rfl) (hr.mono (by decide)) rfl G.d_check_group.mg (ga_cons (pe_eV (pv_var (pv 0))) ga_nil)))
  (fs_one (fs_ret (pe_eV (pv_callG O_turns_in (hr.mono (by decide)) rfl G.d_turns_in.mg (fa_cons (pv_var (pv 0)) fa_nil))))))) rfl (fun _ _ _ _ _ _ us hl => match us, hl with | [_], _ => rfl)
theorem sc_plus_of : FnScope ["group", "turn", "other", "at", "number"] ["group", "turn", "other"] (defScope s_plus_of) := ⟨rfl, rfl, rfl, by decide +kernel, rfl, by decide +kernel, by decide +kernel⟩
def b_plus_of : SM :=
  (bRet (eV (vCal fTuple (vCons (vLc (sEn (vVar 1)) (gT (gCons (gN 3) (gCons (gN 4) gNil))) (vC (.bl true)) (v2 (fI2 iMod) (vCal fInt (vCons (v2 fAdd (vVar 4) (v2 fIx (vVar 2) (vVar 3))) vNil)) (v2 fIx (vVar 0) (vVar 3))) [3, 4]) vNil))))
def r_plus_of : List OD → Rs := runD 3 5 [] (b_plus_of)
theorem ok_plus_of (G : Gx P K mg T) : OkF P w K mg base T 3 9 ["group", "turn", "other"] (r_plus_of) := by
  exact okF_mk G.d_plus_of sc_plus_of (fun cdv A outer s H E hr => (fs_one (fs_ret (pe_eV (pv_calT call_tuple_of c_tuple rfl G.b_tuple (by decide +kernel) (fa_cons (pv_lc (own := [(Str.ofString "at", 3), (Str.ofString "number", 4)]) rfl rfl sc_plus_of.nd (piv_en (pv_var (pv 1)) rfl G.b_enumerate) (bo_mk rfl) (fun _ _ _ _ _ => (fg_tup rfl (fg_cons (fg_name sc_plus_of.nd rfl (by first | exact Or.inl rfl | exact Or.inr rfl) (by decide)) (fg_cons (fg_name sc_plus_of.nd rfl (by first | exact Or.inl rfl | exact Or.inr rfl) (by decide)) fg_nil)) (gCons_len (gCons_len gNil_len)))) (fun _ _ _ _ _ => fts_nil) (fun _ _ _ _ _ => (pv_bin op_mod o_mod (pv_calT call_int1 c_int rfl G.b_int (by decide +kernel) (fa_cons (pv_bin op_add4 o_add (pv_var (pv 4)) (pv_ix (pv_var (pv 2)) (pv_var (pv 3)))) fa_nil)) (pv_ix (pv_var (pv 0)) (pv_var (pv 3)))))) fa_nil)))))) rfl (fun _ _ _ _ _ _ us hl => match us, hl with | [_, _, _], _ => rfl)
theorem sc_minus_of : FnScope ["group", "turn", "other", "at", "number"] ["group", "turn", "other"] (defScope s_minus_of) := ⟨rfl, rfl, rfl, by decide +kernel, rfl, by decide +kernel, by decide +kernel⟩
def b_minus_of : SM :=
  (bRet (eV (vCal fTuple (vCons (vLc (sEn (vVar 1)) (gT (gCons (gN 3) (gCons (gN 4) gNil))) (vC (.bl true)) (v2 (fI2 iMod) (vCal fInt (vCons (v2 (fI2 iSub) (vVar 4) (v2 fIx (vVar 2) (vVar 3))) vNil)) (v2 fIx (vVar 0) (vVar 3))) [3, 4]) vNil))))
def r_minus_of : List OD → Rs := runD 3 5 [] (b_minus_of)
theorem ok_minus_of (G : Gx P K mg T) : OkF P w K mg base T 3 10 ["group", "turn", "other"] (r_minus_of) := by
  exact okF_mk G.d_minus_of sc_minus_of (fun cdv A outer s H E hr => (fs_one (fs_ret (pe_eV (pv_calT call_tuple_of c_tuple rfl G.b_tuple (by decide +kernel) (fa_cons (pv_lc (own := [(Str.ofString "at", 3), (Str.ofString "number", 4)]) rfl rfl sc_minus_of.nd (piv_en (pv_var (pv 1)) rfl G.b_enumerate) (bo_mk rfl) (fun _ _ _ _ _ => (fg_tup rfl (fg_cons (fg_name sc_minus_of.nd rfl (by first | exact Or.inl rfl | exact Or.inr rfl) (by decide)) (fg_cons (fg_name sc_minus_of.nd rfl (by first | exact Or.inl rfl | exact Or.inr rfl) (by decide)) fg_nil)) (gCons_len (gCons_len gNil_len)))) (fun _ _ _ _ _ => fts_nil) (fun _ _ _ _ _ => (pv_bin op_mod o_mod (pv_calT call_int1 c_int rfl G.b_int (by decide +kernel) (fa_cons (pv_bin op_sub o_sub (pv_var (pv 4)) (pv_ix (pv_var (pv 2)) (pv_var (pv 3)))) fa_nil)) (pv_ix (pv_var (pv 0)) (pv_var (pv 3)))))) fa_nil)))))) rfl (fun _ _ _ _ _ _ us hl => match us, hl with | [_, _, _], _ => rfl)
theorem sc_sum_in : FnScope ["group", "turns", "total", "_", "turn"] ["group", "turns"] (defScope s_sum_in) := ⟨rfl, rfl, rfl, by decide +kernel, rfl, by decide +kernel, by decide +kernel⟩
def b_sum_in : SM :=
  (bSeq (bSet 2 (eF (eV (vCal fTuple (vCons (vLc (sSeq (vVar 0)) (gN 3) (vC (.bl true)) (vC (.int 0)) [3]) vNil)))))
  (bSeq (bFor (sSeqE (eV (vVar 1))) (gN 4)
  (bSet 2 (eF (eV (vCall r_plus_of (vCons (vVar 0) (vCons (vVar 2) (vCons (vVar 4) vNil))))))))
  (bRet (eMove 2))))
def r_sum_in : List OD → Rs := runD 2 5 [] (b_sum_in)
theorem ok_sum_in (G : Gx P K mg T) (O_plus_of : OkF P w K mg base T 3 9 ["group", "turn", "other"] (r_plus_of)) : OkF P w K mg base T 4 11 ["group", "turns"] (r_sum_in) := by
  exact okF_mk G.d_sum_in sc_sum_in (fun cdv A outer s H E hr => (fs_cons (fs_set sc_sum_in.nd rfl (by first | exact Or.inl rfl | exact Or.inr rfl) (by decide) (pe_eF (pe_eV (pv_calT call_tuple_of c_tuple rfl G.b_tuple (by decide +kernel) (fa_cons (pv_lc (own := [(Str.ofString "_", 3)]) rfl rfl sc_sum_in.nd (piv_seq (pv_var (pv 0))) (bo_mk rfl) (fun _ _ _ _ _ => (fg_name sc_sum_in.nd rfl (by first | exact Or.inl rfl | exact Or.inr rfl) (by decide))) (fun _ _ _ _ _ => fts_nil) (fun _ _ _ _ _ => pv_int)) fa_nil)))))
  (fs_cons (fs_for (vs := [4]) (passes_of rfl) rfl (pie_seq (pe_eV (pv_var (pv 1)))) (fg_name sc_sum_in.nd rfl (by first | exact Or.inl rfl | exact Or.inr rfl) (by decide)) (by decide)
  (fs_one (fs_set sc_sum_in.nd rfl (by first | exact Or.inl rfl | exact Or.inr rfl) (by decide) (pe_eF (pe_eV (pv_callG O_plus_of (hr.mono (by decide)) rfl G.d_plus_of.mg (fa_cons (pv_var (pv 0)) (fa_cons (pv_var (pv 2)) (fa_cons (pv_var (pv 4)) fa_nil)))))))))
  (fs_one (fs_ret (pe_move (pv 2))))))) rfl (fun _ _ _ _ _ _ us hl => match us, hl with | [_, _], _ => rfl)
theorem sc_is_turn_of : FnScope ["group", "value", "at", "number"] ["group", "value"] (defScope s_is_turn_of) := ⟨rfl, rfl, rfl, by decide +kernel, rfl, by decide +kernel, by decide +kernel⟩
def b_is_turn_of : SM :=
  (bSeq (bIf (eV (vOr (vNot (vIsi ["tuple"] (vVar 1))) (v2 fNe (vCal fLen (vCons (vVar 1) vNil)) (vCal fLen (vCons (vVar 0) vNil)))))
  (bRet (eV (vC (.bl false))))
  bNil)
  (bRet (eV (v2 fEq (vLc (sEn (vVar 1)) (gT (gCons (gN 2) (gCons (gN 3) gNil))) (vNot (vCall r_is_below (vCons (vVar 3) (vCons (v2 fIx (vVar 0) (vVar 2)) vNil)))) (vVar 2) [2, 3]) (vLst vNil)))))
def r_is_turn_of : List OD → Rs := runD 2 4 [] (b_is_turn_of)
theorem ok_is_turn_of (G : Gx P K mg T) (O_is_below : OkF P w K mg base T 5 2 ["value", "bound"] (r_is_below)) : OkF P w K mg base T 6 12 ["group", "value"] (r_is_turn_of) := by
  exact okF_mk G.d_is_turn_of sc_is_turn_of (fun cdv A outer s H E hr => (fs_cons (fs_if (ptE (PW.pt (pwv_or (ptv_not (pt_v (pv_isi (c := "tuple") (pv_var (pv 1)) rfl G.b_isinstance rfl G.b_tuple (by decide +kernel) (by decide)))) (pwv_or1 (ptv_cmp (op_neD (room64 hr)) o_ne (pv_cal call_len c_len rfl G.b_len (by decide +kernel) (fa_cons (pv_var (pv 1)) fa_nil)) (pv_cal call_len c_len rfl G.b_len (by decide +kernel) (fa_cons (pv_var (pv 0)) fa_nil)) (nomark _))))))
  (fs_one (fs_ret (pe_eV pv_bl)))
  fs_nil)
  (fs_one (fs_ret (pe_eV (pv_cmp (op_eqD (room64 hr)) o_eq (pv_lc (own := [(Str.ofString "at", 2), (Str.ofString "number", 3)]) rfl rfl sc_is_turn_of.nd (piv_en (pv_var (pv 1)) rfl G.b_enumerate) (bo_mk rfl) (fun _ _ _ _ _ => (fg_tup rfl (fg_cons (fg_name sc_is_turn_of.nd rfl (by first | exact Or.inl rfl | exact Or.inr rfl) (by decide)) (fg_cons (fg_name sc_is_turn_of.nd rfl (by first | exact Or.inl rfl | exact Or.inr rfl) (by decide)) fg_nil)) (gCons_len (gCons_len gNil_len)))) (fun _ _ _ _ _ => pts_one (ptv_not (pt_v (pv_callG O_is_below (hr.mono (by decide)) rfl G.d_is_below.mg (fa_cons (pv_var (pv 3)) (fa_cons (pv_ix (pv_var (pv 0)) (pv_var (pv 2))) fa_nil)))))) (fun _ _ _ _ _ => (pv_var (pv 2)))) (pv_lst fa_nil) (nomark _))))))) rfl (fun _ _ _ _ _ _ us hl => match us, hl with | [_, _], _ => rfl)
theorem sc_are_turns_of : FnScope ["group", "value", "turn"] ["group", "value"] (defScope s_are_turns_of) := ⟨rfl, rfl, rfl, by decide +kernel, rfl, by decide +kernel, by decide +kernel⟩
def b_are_turns_of : SM :=
  (bSeq (bIf (eV (vOr (vNot (vIsi ["list"] (vVar 1))) (v2 fNe (vCal fLen (vCons (vVar 1) vNil)) (vCall r_order_of (vCons (vVar 0) vNil)))))
  (bRet (eV (vC (.bl false))))
  bNil)
  (bRet (eV (v2 fEq (vLc (sSeq (vVar 1)) (gN 2) (vNot (vCall r_is_turn_of (vCons (vVar 0) (vCons (vVar 2) vNil)))) (vVar 2) [2]) (vLst vNil)))))
def r_are_turns_of : List OD → Rs := runD 2 3 [] (b_are_turns_of)
theorem ok_are_turns_of (G : Gx P K mg T) (O_order_of : OkF P w K mg base T 3 4 ["group"] (r_order_of)) (O_is_turn_of : OkF P w K mg base T 6 12 ["group", "value"] (r_is_turn_of)) : OkF P w K mg base T 7 13 ["group", "value"] (r_are_turns_of) := by
  exact okF_mk G.d_are_turns_of sc_are_turns_of (fun cdv A outer s H E hr => (fs_cons (fs_if (ptE (PW.pt (pwv_or (ptv_not (pt_v (pv_isi (c := "list") (pv_var (pv 1)) rfl G.b_isinstance rfl G.b_list (by decide +kernel) (by decide)))) (pwv_or1 (ptv_cmp (op_neD (room64 hr)) o_ne (pv_cal call_len c_len rfl G.b_len (by decide +kernel) (fa_cons (pv_var (pv 1)) fa_nil)) (pv_callG O_order_of (hr.mono (by decide)) rfl G.d_order_of.mg (fa_cons (pv_var (pv 0)) fa_nil)) (nomark _))))))
  (fs_one (fs_ret (pe_eV pv_bl)))
  fs_nil)
  (fs_one (fs_ret (pe_eV (pv_cmp (op_eqD (room64 hr)) o_eq (pv_lc (own := [(Str.ofString "turn", 2)]) rfl rfl sc_are_turns_of.nd (piv_seq (pv_var (pv 1))) (bo_mk rfl) (fun _ _ _ _ _ => (fg_name sc_are_turns_of.nd rfl (by first | exact Or.inl rfl | exact Or.inr rfl) (by decide))) (fun _ _ _ _ _ => pts_one (ptv_not (pt_v (pv_callG O_is_turn_of (hr.mono (by decide)) rfl G.d_is_turn_of.mg (fa_cons (pv_var (pv 0)) (fa_cons (pv_var (pv 2)) fa_nil)))))) (fun _ _ _ _ _ => (pv_var (pv 2)))) (pv_lst fa_nil) (nomark _))))))) rfl (fun _ _ _ _ _ _ us hl => match us, hl with | [_, _], _ => rfl)
theorem sc_check_turns : FnScope ["group", "turns"] ["group", "turns"] (defScope s_check_turns) := ⟨rfl, rfl, rfl, by decide +kernel, rfl, by decide +kernel, by decide +kernel⟩
def b_check_turns : SM :=
  (bIf (eV (vNot (vCall r_are_turns_of (vCons (vVar 0) (vCons (vVar 1) vNil)))))
  (bRaise 0 (eV (vVar 1)))
  bNil)
def r_check_turns : List OD → Rs := runD 2 2 [] (b_check_turns)
theorem ok_check_turns (G : Gx P K mg T) (O_are_turns_of : OkF P w K mg base T 7 13 ["group", "value"] (r_are_turns_of)) : OkF P w K mg base T 8 14 ["group", "turns"] (r_check_turns) := by
  obtain ⟨C_InvalidTable, hm_InvalidTable, hk_InvalidTable, hx_InvalidTable⟩ := G.x_InvalidTable
  have hi_InvalidTable := G.i_InvalidTable _ hm_InvalidTable
  exact okF_mk G.d_check_turns sc_check_turns (fun cdv A outer s H E hr => (fs_one (fs_if (ptE (ptv_not (pt_v (pv_callG O_are_turns_of (hr.mono (by decide)) rfl G.d_are_turns_of.mg (fa_cons (pv_var (pv 0)) (fa_cons (pv_var (pv 1)) fa_nil))))))
  (fs_one (fs_raise rfl (takes_of rfl rfl rfl rfl) hx_InvalidTable (hr.mono (by decide)) rfl hm_InvalidTable hk_InvalidTable (pe_eV (pv_var (pv 1)))))
  fs_nil))) rfl (fun _ _ _ _ _ _ us hl => match us, hl with | [_, _], _ => rfl)
theorem sc_sum_of_turns : FnScope ["group", "turns"] ["group", "turns"] (defScope s_sum_of_turns) := ⟨rfl, rfl, rfl, by decide +kernel, rfl, by decide +kernel, by decide +kernel⟩
def b_sum_of_turns : SM :=
  (bSeq (bDrop (eCall r_check_group [.e (eV (vVar 0))]))
  (bSeq (bDrop (eCall r_check_turns [.e (eV (vVar 0)), .e (eV (vVar 1))]))
  (bRet (eV (vCall r_sum_in (vCons (vVar 0) (vCons (vVar 1) vNil)))))))
def r_sum_of_turns : List OD → Rs := runD 2 2 [] (b_sum_of_turns)
theorem ok_sum_of_turns (G : Gx P K mg T) (O_check_group : OkF P w K mg base T 5 6 ["group"] (r_check_group)) (O_sum_in : OkF P w K mg base T 4 11 ["group", "turns"] (r_sum_in)) (O_check_turns : OkF P w K mg base T 8 14 ["group", "turns"] (r_check_turns)) : OkF P w K mg base T 9 15 ["group", "turns"] (r_sum_of_turns) := by
  exact okF_mk G.d_sum_of_turns sc_sum_of_turns (fun cdv A outer s H E hr => (fs_cons (fs_expr (pe_callG O_check_group (takes_of rfl rfl rfl rfl) (hr.mono (by decide)) rfl G.d_check_group.mg (ga_cons (pe_eV (pv_var (pv 0))) ga_nil)))
  (fs_cons (fs_expr (pe_callG O_check_turns (takes_of rfl rfl rfl rfl) (hr.mono (by decide)) rfl G.d_check_turns.mg (ga_cons (pe_eV (pv_var (pv 0))) (ga_cons (pe_eV (pv_var (pv 1))) ga_nil))))
  (fs_one (fs_ret (pe_eV (pv_callG O_sum_in (hr.mono (by decide)) rfl G.d_sum_in.mg (fa_cons (pv_var (pv 0)) (fa_cons (pv_var (pv 1)) fa_nil))))))))) rfl (fun _ _ _ _ _ _ us hl => match us, hl with | [_, _], _ => rfl)
theorem sc_turning_rota : FnScope ["group", "turns", "person", "day"] ["group"] (defScope s_turning_rota) := ⟨rfl, rfl, rfl, by decide +kernel, rfl, by decide +kernel, by decide +kernel⟩
def b_turning_rota : SM :=
  (bSeq (bDrop (eCall r_check_group [.e (eV (vVar 0))]))
  (bSeq (bSet 1 (eF (eV (vCall r_turns_in (vCons (vVar 0) vNil)))))
  (bRet (eV (vLc (sSeq (vVar 1)) (gN 2) (vC (.bl true)) (vLc (sSeq (vVar 1)) (gN 3) (vC (.bl true)) (v2 fIndex (vVar 1) (vCall r_plus_of (vCons (vVar 0) (vCons (vVar 2) (vCons (vVar 3) vNil))))) [3]) [2])))))
def r_turning_rota : List OD → Rs := runD 1 4 [] (b_turning_rota)
theorem ok_turning_rota (G : Gx P K mg T) (O_check_group : OkF P w K mg base T 5 6 ["group"] (r_check_group)) (O_turns_in : OkF P w K mg base T 3 7 ["group"] (r_turns_in)) (O_plus_of : OkF P w K mg base T 3 9 ["group", "turn", "other"] (r_plus_of)) : OkF P w K mg base T 6 16 ["group"] (r_turning_rota) := by
  exact okF_mk G.d_turning_rota sc_turning_rota (fun cdv A outer s H E hr => (fs_cons (fs_expr (pe_callG O_check_group (takes_of rfl rfl rfl rfl) (hr.mono (by decide)) rfl G.d_check_group.mg (ga_cons (pe_eV (pv_var (pv 0))) ga_nil)))
  (fs_cons (fs_set sc_turning_rota.nd rfl (by first | exact Or.inl rfl | exact Or.inr rfl) (by decide) (pe_eF (pe_eV (pv_callG O_turns_in (hr.mono (by decide)) rfl G.d_turns_in.mg (fa_cons (pv_var (pv 0)) fa_nil)))))
  (fs_one (fs_ret (pe_eV (pv_lc (own := [(Str.ofString "person", 2)]) rfl rfl sc_turning_rota.nd (piv_seq (pv_var (pv 1))) (bo_mk rfl) (fun _ _ _ _ _ => (fg_name sc_turning_rota.nd rfl (by first | exact Or.inl rfl | exact Or.inr rfl) (by decide))) (fun _ _ _ _ _ => fts_nil) (fun _ _ _ _ _ => (pv_lc (own := [(Str.ofString "day", 3)]) rfl rfl sc_turning_rota.nd (piv_seq (pv_var (pv 1))) (bo_mk rfl) (fun _ _ _ _ _ => (fg_name sc_turning_rota.nd rfl (by first | exact Or.inl rfl | exact Or.inr rfl) (by decide))) (fun _ _ _ _ _ => fts_nil) (fun _ _ _ _ _ => (pv_index (room65 hr) (pv_var (pv 1)) (pv_callG O_plus_of (hr.mono (by decide)) rfl G.d_plus_of.mg (fa_cons (pv_var (pv 0)) (fa_cons (pv_var (pv 2)) (fa_cons (pv_var (pv 3)) fa_nil))))))))))))))) rfl (fun _ _ _ _ _ _ us hl => match us, hl with | [_], _ => rfl)
theorem sc_chained : FnScope ["group", "first", "second", "at", "due", "last", "whole", "place", "free", "turn", "wanted", "holder", "other"] ["group", "first", "second", "at", "due"] (defScope s_chained) := ⟨rfl, rfl, rfl, by decide +kernel, rfl, by decide +kernel, by decide +kernel⟩
def b_chained : SM :=
  (bSeq (bSet 5 (eF (eV (v2 (fI2 iSub) (vCal fLen (vCons (vVar 1) vNil)) (vC (.int 1))))))
  (bSeq (bSet 6 (eF (eV (vCall r_plus_of (vCons (vVar 0) (vCons (v2 fIx (vVar 2) (vVar 5)) (vCons (vCall r_plus_of (vCons (vVar 0) (vCons (v2 fIx (vVar 2) (vVar 3)) (vCons (vVar 4) vNil)))) vNil)))))))
  (bSeq (bSet 7 (eF (eV (v2 fIndex (vVar 1) (vCall r_minus_of (vCons (vVar 0) (vCons (vVar 6) (vCons (v2 fIx (vVar 2) (vVar 5)) vNil))))))))
  (bSeq (bIf (eV (v2 fEq (vVar 7) (vVar 3)))
  bRetN
  bNil)
  (bSeq (bSet 8 (eF (eV (v2 fIx (vVar 1) (vVar 3)))))
  (bSeq (bSto 1 (vVar 3) (eV (v2 fIx (vVar 1) (vVar 7))))
  (bSeq (bWhile (eV (v2 fNe (vVar 7) (vVar 5))) (bSeq (bSet 9 (eF (eV (v2 fIx (vVar 2) (vVar 7)))))
  (bSeq (bSto 2 (vVar 7) (eV (v2 fIx (vVar 2) (vVar 5))))
  (bSeq (bSto 2 (vVar 5) (eV (vVar 9)))
  (bSeq (bSet 10 (eF (eV (vCall r_minus_of (vCons (vVar 0) (vCons (vVar 6) (vCons (vVar 9) vNil)))))))
  (bSeq (bIf (eV (v2 fEq (vVar 10) (vVar 8)))
  (bSeq (bSto 1 (vVar 7) (eV (vVar 8)))
  bRetN)
  bNil)
  (bSeq (bSet 11 (eF (eV (v2 fIx (vLc (sR1 (vCal fLen (vCons (vVar 1) vNil))) (gN 12) (vAnd (v2 fEq (v2 fIx (vVar 1) (vVar 12)) (vVar 10)) (v2 fNe (vVar 12) (vVar 7))) (vVar 12) [12]) (vC (.int 0))))))
  (bSeq (bSto 1 (vVar 7) (eV (vVar 10)))
  (bSet 7 (eF (eV (vVar 11))))))))))) 64)
  (bSto 1 (vVar 5) (eV (vVar 8))))))))))
def r_chained : List OD → Rs := runD 5 13 [1, 2] (b_chained)
theorem ok_chained (G : Gx P K mg T) (O_plus_of : OkF P w K mg base T 3 9 ["group", "turn", "other"] (r_plus_of)) (O_minus_of : OkF P w K mg base T 3 10 ["group", "turn", "other"] (r_minus_of)) : OkF P w K mg base T 4 17 ["group", "first", "second", "at", "due"] (r_chained) := by
  exact okF_mk G.d_chained sc_chained (fun cdv A outer s H E hr => (fs_cons (fs_set sc_chained.nd rfl (by first | exact Or.inl rfl | exact Or.inr rfl) (by decide) (pe_eF (pe_eV (pv_bin op_sub o_sub (pv_cal call_len c_len rfl G.b_len (by decide +kernel) (fa_cons (pv_var (pv 1)) fa_nil)) pv_int))))
  (fs_cons (fs_set sc_chained.nd rfl (by first | exact Or.inl rfl | exact Or.inr rfl) (by decide) (pe_eF (pe_eV (pv_callG O_plus_of (hr.mono (by decide)) rfl G.d_plus_of.mg (fa_cons (pv_var (pv 0)) (fa_cons (pv_ix (pv_var (pv 2)) (pv_var (pv 5))) (fa_cons (pv_callG O_plus_of (hr.mono (by decide)) rfl G.d_plus_of.mg (fa_cons (pv_var (pv 0)) (fa_cons (pv_ix (pv_var (pv 2)) (pv_var (pv 3))) (fa_cons (pv_var (pv 4)) fa_nil)))) fa_nil)))))))
  (fs_cons (fs_set sc_chained.nd rfl (by first | exact Or.inl rfl | exact Or.inr rfl) (by decide) (pe_eF (pe_eV (pv_index (room65 hr) (pv_var (pv 1)) (pv_callG O_minus_of (hr.mono (by decide)) rfl G.d_minus_of.mg (fa_cons (pv_var (pv 0)) (fa_cons (pv_var (pv 6)) (fa_cons (pv_ix (pv_var (pv 2)) (pv_var (pv 5))) fa_nil))))))))
  (fs_cons (fs_if (ptE (ptv_cmp (op_eqD (room64 hr)) o_eq (pv_var (pv 7)) (pv_var (pv 3)) (nomark _)))
  (fs_one fs_retN)
  fs_nil)
  (fs_cons (fs_set sc_chained.nd rfl (by first | exact Or.inl rfl | exact Or.inr rfl) (by decide) (pe_eF (pe_eV (pv_ix (pv_var (pv 1)) (pv_var (pv 3))))))
  (fs_cons (fs_sto (pv 1) (pv_var (pv 3)) (pe_eV (pv_ix (pv_var (pv 1)) (pv_var (pv 7)))))
  (fs_cons (fs_while 64 (passes_of rfl) (ptE (ptv_cmp (op_neD (room64 hr)) o_ne (pv_var (pv 7)) (pv_var (pv 5)) (nomark _))) (fs_cons (fs_set sc_chained.nd rfl (by first | exact Or.inl rfl | exact Or.inr rfl) (by decide) (pe_eF (pe_eV (pv_ix (pv_var (pv 2)) (pv_var (pv 7))))))
  (fs_cons (fs_sto (pv 2) (pv_var (pv 7)) (pe_eV (pv_ix (pv_var (pv 2)) (pv_var (pv 5)))))
  (fs_cons (fs_sto (pv 2) (pv_var (pv 5)) (pe_eV (pv_var (pv 9))))
  (fs_cons (fs_set sc_chained.nd rfl (by first | exact Or.inl rfl | exact Or.inr rfl) (by decide) (pe_eF (pe_eV (pv_callG O_minus_of (hr.mono (by decide)) rfl G.d_minus_of.mg (fa_cons (pv_var (pv 0)) (fa_cons (pv_var (pv 6)) (fa_cons (pv_var (pv 9)) fa_nil)))))))
  (fs_cons (fs_if (ptE (ptv_cmp (op_eqD (room64 hr)) o_eq (pv_var (pv 10)) (pv_var (pv 8)) (nomark _)))
  (fs_cons (fs_sto (pv 1) (pv_var (pv 7)) (pe_eV (pv_var (pv 8))))
  (fs_one fs_retN))
  fs_nil)
  (fs_cons (fs_set sc_chained.nd rfl (by first | exact Or.inl rfl | exact Or.inr rfl) (by decide) (pe_eF (pe_eV (pv_ix (pv_lc (own := [(Str.ofString "other", 12)]) rfl rfl sc_chained.nd (piv_r1 (pv_cal call_len c_len rfl G.b_len (by decide +kernel) (fa_cons (pv_var (pv 1)) fa_nil)) rfl G.b_range) (bo_mk rfl) (fun _ _ _ _ _ => (fg_name sc_chained.nd rfl (by first | exact Or.inl rfl | exact Or.inr rfl) (by decide))) (fun _ _ _ _ _ => pts_one (PW.pt (pwv_and (ptv_cmp (op_eqD (room64 hr)) o_eq (pv_ix (pv_var (pv 1)) (pv_var (pv 12))) (pv_var (pv 10)) (nomark _)) (pwv_and1 (ptv_cmp (op_neD (room64 hr)) o_ne (pv_var (pv 12)) (pv_var (pv 7)) (nomark _)))))) (fun _ _ _ _ _ => (pv_var (pv 12)))) pv_int))))
  (fs_cons (fs_sto (pv 1) (pv_var (pv 7)) (pe_eV (pv_var (pv 10))))
  (fs_one (fs_set sc_chained.nd rfl (by first | exact Or.inl rfl | exact Or.inr rfl) (by decide) (pe_eF (pe_eV (pv_var (pv 11))))))))))))))
  (fs_one (fs_sto (pv 1) (pv_var (pv 5)) (pe_eV (pv_var (pv 8))))))))))))) rfl (fun _ _ _ _ _ _ us hl => match us, hl with | [_, _, _, _, _], _ => rfl)
theorem sc_dealt_with : FnScope ["group", "differences", "first", "second", "at"] ["group", "differences"] (defScope s_dealt_with) := ⟨rfl, rfl, rfl, by decide +kernel, rfl, by decide +kernel, by decide +kernel⟩
def b_dealt_with : SM :=
  (bSeq (bSet 2 (eV (vCall r_turns_in (vCons (vVar 0) vNil))))
  (bSeq (bSet 3 (eV (vCall r_turns_in (vCons (vVar 0) vNil))))
  (bSeq (bFor (sR1E (eV (v2 (fI2 iSub) (vCal fLen (vCons (vVar 2) vNil)) (vC (.int 1))))) (gN 4)
  (bDrop (eCall r_chained [.e (eV (vVar 0)), .l 2, .l 3, .e (eV (vVar 4)), .e (eV (v2 fIx (vVar 1) (vVar 4)))])))
  (bRet (eTup [.r (eMove 2), .r (eMove 3)])))))
def r_dealt_with : List OD → Rs := runD 2 5 [] (b_dealt_with)
theorem ok_dealt_with (G : Gx P K mg T) (O_turns_in : OkF P w K mg base T 3 7 ["group"] (r_turns_in)) (O_chained : OkF P w K mg base T 4 17 ["group", "first", "second", "at", "due"] (r_chained)) : OkF P w K mg base T 5 18 ["group", "differences"] (r_dealt_with) := by
  exact okF_mk G.d_dealt_with sc_dealt_with (fun cdv A outer s H E hr => (fs_cons (fs_set sc_dealt_with.nd rfl (by first | exact Or.inl rfl | exact Or.inr rfl) (by decide) (pe_eV (pv_callG O_turns_in (hr.mono (by decide)) rfl G.d_turns_in.mg (fa_cons (pv_var (pv 0)) fa_nil))))
  (fs_cons (fs_set sc_dealt_with.nd rfl (by first | exact Or.inl rfl | exact Or.inr rfl) (by decide) (pe_eV (pv_callG O_turns_in (hr.mono (by decide)) rfl G.d_turns_in.mg (fa_cons (pv_var (pv 0)) fa_nil))))
  (fs_cons (fs_for (vs := [4]) (passes_of rfl) rfl (pie_r1 (pe_eV (pv_bin op_sub o_sub (pv_cal call_len c_len rfl G.b_len (by decide +kernel) (fa_cons (pv_var (pv 2)) fa_nil)) pv_int)) rfl G.b_range) (fg_name sc_dealt_with.nd rfl (by first | exact Or.inl rfl | exact Or.inr rfl) (by decide)) (by decide)
  (fs_one (fs_expr (pe_callG O_chained (takes_of rfl rfl rfl rfl) (hr.mono (by decide)) rfl G.d_chained.mg (ga_cons (pe_eV (pv_var (pv 0))) (ga_lend (pv 2) (ga_lend (pv 3) (ga_cons (pe_eV (pv_var (pv 4))) (ga_cons (pe_eV (pv_ix (pv_var (pv 1)) (pv_var (pv 4)))) ga_nil)))))))))
  (fs_one (fs_ret (pe_tupE (ga_raw (pe_move (pv 2)) (ga_raw (pe_move (pv 3)) ga_nil))))))))) rfl (fun _ _ _ _ _ _ us hl => match us, hl with | [_, _], _ => rfl)
theorem sc_dealings : FnScope ["group", "differences", "total", "_"] ["group", "differences"] (defScope s_dealings) := ⟨rfl, rfl, rfl, by decide +kernel, rfl, by decide +kernel, by decide +kernel⟩
def b_dealings : SM :=
  (bSeq (bDrop (eCall r_check_group [.e (eV (vVar 0))]))
  (bSeq (bDrop (eCall r_check_turns [.e (eV (vVar 0)), .e (eV (vVar 1))]))
  (bSeq (bSet 2 (eF (eV (vCall r_sum_in (vCons (vVar 0) (vCons (vVar 1) vNil))))))
  (bSeq (bIf (eV (v2 fNe (vVar 2) (vCal fTuple (vCons (vLc (sSeq (vVar 0)) (gN 3) (vC (.bl true)) (vC (.int 0)) [3]) vNil))))
  (bRaise 4 (eV (vVar 2)))
  bNil)
  (bRet (eV (vCall r_dealt_with (vCons (vVar 0) (vCons (vVar 1) vNil)))))))))
def r_dealings : List OD → Rs := runD 2 4 [] (b_dealings)
theorem ok_dealings (G : Gx P K mg T) (O_check_group : OkF P w K mg base T 5 6 ["group"] (r_check_group)) (O_sum_in : OkF P w K mg base T 4 11 ["group", "turns"] (r_sum_in)) (O_check_turns : OkF P w K mg base T 8 14 ["group", "turns"] (r_check_turns)) (O_dealt_with : OkF P w K mg base T 5 18 ["group", "differences"] (r_dealt_with)) : OkF P w K mg base T 9 19 ["group", "differences"] (r_dealings) := by
  obtain ⟨C_Barred, hm_Barred, hk_Barred, hx_Barred⟩ := G.x_Barred
  have hi_Barred := G.i_Barred _ hm_Barred
  exact okF_mk G.d_dealings sc_dealings (fun cdv A outer s H E hr => (fs_cons (fs_expr (pe_callG O_check_group (takes_of rfl rfl rfl rfl) (hr.mono (by decide)) rfl G.d_check_group.mg (ga_cons (pe_eV (pv_var (pv 0))) ga_nil)))
  (fs_cons (fs_expr (pe_callG O_check_turns (takes_of rfl rfl rfl rfl) (hr.mono (by decide)) rfl G.d_check_turns.mg (ga_cons (pe_eV (pv_var (pv 0))) (ga_cons (pe_eV (pv_var (pv 1))) ga_nil))))
  (fs_cons (fs_set sc_dealings.nd rfl (by first | exact Or.inl rfl | exact Or.inr rfl) (by decide) (pe_eF (pe_eV (pv_callG O_sum_in (hr.mono (by decide)) rfl G.d_sum_in.mg (fa_cons (pv_var (pv 0)) (fa_cons (pv_var (pv 1)) fa_nil))))))
  (fs_cons (fs_if (ptE (ptv_cmp (op_neD (room64 hr)) o_ne (pv_var (pv 2)) (pv_calT call_tuple_of c_tuple rfl G.b_tuple (by decide +kernel) (fa_cons (pv_lc (own := [(Str.ofString "_", 3)]) rfl rfl sc_dealings.nd (piv_seq (pv_var (pv 0))) (bo_mk rfl) (fun _ _ _ _ _ => (fg_name sc_dealings.nd rfl (by first | exact Or.inl rfl | exact Or.inr rfl) (by decide))) (fun _ _ _ _ _ => fts_nil) (fun _ _ _ _ _ => pv_int)) fa_nil)) (nomark _)))
  (fs_one (fs_raise rfl (takes_of rfl rfl rfl rfl) hx_Barred (hr.mono (by decide)) rfl hm_Barred hk_Barred (pe_eV (pv_var (pv 2)))))
  fs_nil)
  (fs_one (fs_ret (pe_eV (pv_callG O_dealt_with (hr.mono (by decide)) rfl G.d_dealt_with.mg (fa_cons (pv_var (pv 0)) (fa_cons (pv_var (pv 1)) fa_nil))))))))))) rfl (fun _ _ _ _ _ _ us hl => match us, hl with | [_, _], _ => rfl)
theorem sc_is_dealing_of : FnScope ["group", "value"] ["group", "value"] (defScope s_is_dealing_of) := ⟨rfl, rfl, rfl, by decide +kernel, rfl, by decide +kernel, by decide +kernel⟩
def b_is_dealing_of : SM :=
  (bRet (eV (vAnd (vCall r_are_turns_of (vCons (vVar 0) (vCons (vVar 1) vNil))) (v2 fEq vNever (vCall r_turns_in (vCons (vVar 0) vNil))))))
def r_is_dealing_of : List OD → Rs := runD 2 2 [] (b_is_dealing_of)
theorem ok_is_dealing_of (G : Gx P K mg T) (O_turns_in : OkF P w K mg base T 3 7 ["group"] (r_turns_in)) (O_are_turns_of : OkF P w K mg base T 7 13 ["group", "value"] (r_are_turns_of)) : OkF P w K mg base T 8 20 ["group", "value"] (r_is_dealing_of) := by
  exact okF_mk G.d_is_dealing_of sc_is_dealing_of (fun cdv A outer s H E hr => (fs_one (fs_ret (pe_eV (pv_and (pv_callG O_are_turns_of (hr.mono (by decide)) rfl G.d_are_turns_of.mg (fa_cons (pv_var (pv 0)) (fa_cons (pv_var (pv 1)) fa_nil))) (pv_one (pv_cmp (op_eqD (room64 hr)) o_eq pv_never (pv_callG O_turns_in (hr.mono (by decide)) rfl G.d_turns_in.mg (fa_cons (pv_var (pv 0)) fa_nil)) (nomark _)))))))) rfl (fun _ _ _ _ _ _ us hl => match us, hl with | [_, _], _ => rfl)
theorem sc_are_dealings : FnScope ["group", "differences", "value", "at", "turn"] ["group", "differences", "value"] (defScope s_are_dealings) := ⟨rfl, rfl, rfl, by decide +kernel, rfl, by decide +kernel, by decide +kernel⟩
def b_are_dealings : SM :=
  (bSeq (bDrop (eCall r_check_group [.e (eV (vVar 0))]))
  (bSeq (bDrop (eCall r_check_turns [.e (eV (vVar 0)), .e (eV (vVar 1))]))
  (bSeq (bIf (eV (vOr (vNot (vIsi ["tuple"] (vVar 2))) (v2 fNe (vCal fLen (vCons (vVar 2) vNil)) (vC (.int 2)))))
  (bRet (eV (vC (.bl false))))
  bNil)
  (bSeq (bIf (eV (vOr (vNot (vCall r_is_dealing_of (vCons (vVar 0) (vCons (v2 fIx (vVar 2) (vC (.int 0))) vNil)))) (vNot (vCall r_is_dealing_of (vCons (vVar 0) (vCons (v2 fIx (vVar 2) (vC (.int 1))) vNil))))))
  (bRet (eV (vC (.bl false))))
  bNil)
  (bRet (eV (v2 fEq (vLc (sEn (v2 fIx (vVar 2) (vC (.int 0)))) (gT (gCons (gN 3) (gCons (gN 4) gNil))) (vC (.bl true)) (vCall r_minus_of (vCons (vVar 0) (vCons (vVar 4) (vCons (v2 fIx (v2 fIx (vVar 2) (vC (.int 1))) (vVar 3)) vNil)))) [3, 4]) (vVar 1))))))))
def r_are_dealings : List OD → Rs := runD 3 5 [] (b_are_dealings)
theorem ok_are_dealings (G : Gx P K mg T) (O_check_group : OkF P w K mg base T 5 6 ["group"] (r_check_group)) (O_minus_of : OkF P w K mg base T 3 10 ["group", "turn", "other"] (r_minus_of)) (O_check_turns : OkF P w K mg base T 8 14 ["group", "turns"] (r_check_turns)) (O_is_dealing_of : OkF P w K mg base T 8 20 ["group", "value"] (r_is_dealing_of)) : OkF P w K mg base T 9 21 ["group", "differences", "value"] (r_are_dealings) := by
  exact okF_mk G.d_are_dealings sc_are_dealings (fun cdv A outer s H E hr => (fs_cons (fs_expr (pe_callG O_check_group (takes_of rfl rfl rfl rfl) (hr.mono (by decide)) rfl G.d_check_group.mg (ga_cons (pe_eV (pv_var (pv 0))) ga_nil)))
  (fs_cons (fs_expr (pe_callG O_check_turns (takes_of rfl rfl rfl rfl) (hr.mono (by decide)) rfl G.d_check_turns.mg (ga_cons (pe_eV (pv_var (pv 0))) (ga_cons (pe_eV (pv_var (pv 1))) ga_nil))))
  (fs_cons (fs_if (ptE (PW.pt (pwv_or (ptv_not (pt_v (pv_isi (c := "tuple") (pv_var (pv 2)) rfl G.b_isinstance rfl G.b_tuple (by decide +kernel) (by decide)))) (pwv_or1 (ptv_cmp (op_neD (room64 hr)) o_ne (pv_cal call_len c_len rfl G.b_len (by decide +kernel) (fa_cons (pv_var (pv 2)) fa_nil)) pv_int (nomark _))))))
  (fs_one (fs_ret (pe_eV pv_bl)))
  fs_nil)
  (fs_cons (fs_if (ptE (PW.pt (pwv_or (ptv_not (pt_v (pv_callG O_is_dealing_of (hr.mono (by decide)) rfl G.d_is_dealing_of.mg (fa_cons (pv_var (pv 0)) (fa_cons (pv_ix (pv_var (pv 2)) pv_int) fa_nil))))) (pwv_or1 (ptv_not (pt_v (pv_callG O_is_dealing_of (hr.mono (by decide)) rfl G.d_is_dealing_of.mg (fa_cons (pv_var (pv 0)) (fa_cons (pv_ix (pv_var (pv 2)) pv_int) fa_nil)))))))))
  (fs_one (fs_ret (pe_eV pv_bl)))
  fs_nil)
  (fs_one (fs_ret (pe_eV (pv_cmp (op_eqD (room64 hr)) o_eq (pv_lc (own := [(Str.ofString "at", 3), (Str.ofString "turn", 4)]) rfl rfl sc_are_dealings.nd (piv_en (pv_ix (pv_var (pv 2)) pv_int) rfl G.b_enumerate) (bo_mk rfl) (fun _ _ _ _ _ => (fg_tup rfl (fg_cons (fg_name sc_are_dealings.nd rfl (by first | exact Or.inl rfl | exact Or.inr rfl) (by decide)) (fg_cons (fg_name sc_are_dealings.nd rfl (by first | exact Or.inl rfl | exact Or.inr rfl) (by decide)) fg_nil)) (gCons_len (gCons_len gNil_len)))) (fun _ _ _ _ _ => fts_nil) (fun _ _ _ _ _ => (pv_callG O_minus_of (hr.mono (by decide)) rfl G.d_minus_of.mg (fa_cons (pv_var (pv 0)) (fa_cons (pv_var (pv 4)) (fa_cons (pv_ix (pv_ix (pv_var (pv 2)) pv_int) (pv_var (pv 3))) fa_nil)))))) (pv_var (pv 1)) (nomark _)))))))))) rfl (fun _ _ _ _ _ _ us hl => match us, hl with | [_, _, _], _ => rfl)
theorem sc_jobs_told : FnScope ["group", "counts", "told", "at", "turn"] ["group", "counts"] (defScope s_jobs_told) := ⟨rfl, rfl, rfl, by decide +kernel, rfl, by decide +kernel, by decide +kernel⟩
def b_jobs_told : SM :=
  (bSeq (bSet 2 (eF (eV (vLst vNil))))
  (bSeq (bFor (sEnE (eV (vCall r_turns_in (vCons (vVar 0) vNil)))) (gT (gCons (gN 3) (gCons (gN 4) gNil)))
  (bSet 2 (eF (eV (v2 fAdd (vVar 2) (v2 fMul (vLst (vCons (vVar 4) vNil)) (v2 fIx (vVar 1) (vVar 3))))))))
  (bRet (eMove 2))))
def r_jobs_told : List OD → Rs := runD 2 5 [] (b_jobs_told)
theorem ok_jobs_told (G : Gx P K mg T) (O_turns_in : OkF P w K mg base T 3 7 ["group"] (r_turns_in)) : OkF P w K mg base T 4 22 ["group", "counts"] (r_jobs_told) := by
  exact okF_mk G.d_jobs_told sc_jobs_told (fun cdv A outer s H E hr => (fs_cons (fs_set sc_jobs_told.nd rfl (by first | exact Or.inl rfl | exact Or.inr rfl) (by decide) (pe_eF (pe_eV (pv_lst fa_nil))))
  (fs_cons (fs_for (vs := [3, 4]) (passes_of rfl) rfl (pie_en (pe_eV (pv_callG O_turns_in (hr.mono (by decide)) rfl G.d_turns_in.mg (fa_cons (pv_var (pv 0)) fa_nil))) rfl G.b_enumerate) (fg_tup rfl (fg_cons (fg_name sc_jobs_told.nd rfl (by first | exact Or.inl rfl | exact Or.inr rfl) (by decide)) (fg_cons (fg_name sc_jobs_told.nd rfl (by first | exact Or.inl rfl | exact Or.inr rfl) (by decide)) fg_nil)) (gCons_len (gCons_len gNil_len))) (by decide)
  (fs_one (fs_set sc_jobs_told.nd rfl (by first | exact Or.inl rfl | exact Or.inr rfl) (by decide) (pe_eF (pe_eV (pv_bin op_add4 o_add (pv_var (pv 2)) (pv_bin op_mul2 o_mul (pv_lst (fa_cons (pv_var (pv 4)) fa_nil)) (pv_ix (pv_var (pv 1)) (pv_var (pv 3))))))))))
  (fs_one (fs_ret (pe_move (pv 2))))))) rfl (fun _ _ _ _ _ _ us hl => match us, hl with | [_, _], _ => rfl)
theorem sc_check_counts : FnScope ["group", "counts"] ["group", "counts"] (defScope s_check_counts) := ⟨rfl, rfl, rfl, by decide +kernel, rfl, by decide +kernel, by decide +kernel⟩
def b_check_counts : SM :=
  (bIf (eV (vOr (vNot (vCall r_is_row_of (vCons (vCall r_order_of (vCons (vVar 0) vNil)) (vCons (vVar 1) vNil)))) (v2 fNe (vCal fSum (vCons (vVar 1) vNil)) (vCall r_order_of (vCons (vVar 0) vNil)))))
  (bRaise 3 (eV (vVar 1)))
  bNil)
def r_check_counts : List OD → Rs := runD 2 2 [] (b_check_counts)
theorem ok_check_counts (G : Gx P K mg T) (O_is_row_of : OkF P w K mg base T 5 3 ["wide", "value"] (r_is_row_of)) (O_order_of : OkF P w K mg base T 3 4 ["group"] (r_order_of)) : OkF P w K mg base T 6 23 ["group", "counts"] (r_check_counts) := by
  obtain ⟨C_InvalidCounts, hm_InvalidCounts, hk_InvalidCounts, hx_InvalidCounts⟩ := G.x_InvalidCounts
  have hi_InvalidCounts := G.i_InvalidCounts _ hm_InvalidCounts
  exact okF_mk G.d_check_counts sc_check_counts (fun cdv A outer s H E hr => (fs_one (fs_if (ptE (PW.pt (pwv_or (ptv_not (pt_v (pv_callG O_is_row_of (hr.mono (by decide)) rfl G.d_is_row_of.mg (fa_cons (pv_callG O_order_of (hr.mono (by decide)) rfl G.d_order_of.mg (fa_cons (pv_var (pv 0)) fa_nil)) (fa_cons (pv_var (pv 1)) fa_nil))))) (pwv_or1 (ptv_cmp (op_neD (room64 hr)) o_ne (pv_cal (cr_sum rfl) c_sum rfl G.b_sum (by decide +kernel) (fa_cons (pv_var (pv 1)) fa_nil)) (pv_callG O_order_of (hr.mono (by decide)) rfl G.d_order_of.mg (fa_cons (pv_var (pv 0)) fa_nil)) (nomark _))))))
  (fs_one (fs_raise rfl (takes_of rfl rfl rfl rfl) hx_InvalidCounts (hr.mono (by decide)) rfl hm_InvalidCounts hk_InvalidCounts (pe_eV (pv_var (pv 1)))))
  fs_nil))) rfl (fun _ _ _ _ _ _ us hl => match us, hl with | [_, _], _ => rfl)
theorem sc_bar_of : FnScope ["group", "counts", "turns"] ["group", "counts"] (defScope s_bar_of) := ⟨rfl, rfl, rfl, by decide +kernel, rfl, by decide +kernel, by decide +kernel⟩
def b_bar_of : SM :=
  (bSeq (bSet 2 (eF (eV (vCall r_turns_in (vCons (vVar 0) vNil)))))
  (bRet (eV (vCall r_minus_of (vCons (vVar 0) (vCons (vCall r_sum_in (vCons (vVar 0) (vCons (vCall r_jobs_told (vCons (vVar 0) (vCons (vVar 1) vNil))) vNil))) (vCons (vCall r_sum_in (vCons (vVar 0) (vCons (v2 fAdd (vVar 2) (vVar 2)) vNil))) vNil)))))))
def r_bar_of : List OD → Rs := runD 2 3 [] (b_bar_of)
theorem ok_bar_of (G : Gx P K mg T) (O_turns_in : OkF P w K mg base T 3 7 ["group"] (r_turns_in)) (O_minus_of : OkF P w K mg base T 3 10 ["group", "turn", "other"] (r_minus_of)) (O_sum_in : OkF P w K mg base T 4 11 ["group", "turns"] (r_sum_in)) (O_jobs_told : OkF P w K mg base T 4 22 ["group", "counts"] (r_jobs_told)) : OkF P w K mg base T 5 24 ["group", "counts"] (r_bar_of) := by
  exact okF_mk G.d_bar_of sc_bar_of (fun cdv A outer s H E hr => (fs_cons (fs_set sc_bar_of.nd rfl (by first | exact Or.inl rfl | exact Or.inr rfl) (by decide) (pe_eF (pe_eV (pv_callG O_turns_in (hr.mono (by decide)) rfl G.d_turns_in.mg (fa_cons (pv_var (pv 0)) fa_nil)))))
  (fs_one (fs_ret (pe_eV (pv_callG O_minus_of (hr.mono (by decide)) rfl G.d_minus_of.mg (fa_cons (pv_var (pv 0)) (fa_cons (pv_callG O_sum_in (hr.mono (by decide)) rfl G.d_sum_in.mg (fa_cons (pv_var (pv 0)) (fa_cons (pv_callG O_jobs_told (hr.mono (by decide)) rfl G.d_jobs_told.mg (fa_cons (pv_var (pv 0)) (fa_cons (pv_var (pv 1)) fa_nil))) fa_nil))) (fa_cons (pv_callG O_sum_in (hr.mono (by decide)) rfl G.d_sum_in.mg (fa_cons (pv_var (pv 0)) (fa_cons (pv_bin op_add4 o_add (pv_var (pv 2)) (pv_var (pv 2))) fa_nil))) fa_nil))))))))) rfl (fun _ _ _ _ _ _ us hl => match us, hl with | [_, _], _ => rfl)
theorem sc_picks_bar : FnScope ["group", "counts", "bar", "_"] ["group", "counts"] (defScope s_picks_bar) := ⟨rfl, rfl, rfl, by decide +kernel, rfl, by decide +kernel, by decide +kernel⟩
def b_picks_bar : SM :=
  (bSeq (bDrop (eCall r_check_group [.e (eV (vVar 0))]))
  (bSeq (bDrop (eCall r_check_counts [.e (eV (vVar 0)), .e (eV (vVar 1))]))
  (bSeq (bSet 2 (eF (eV (vCall r_bar_of (vCons (vVar 0) (vCons (vVar 1) vNil))))))
  (bRet (eV (vIf (v2 fEq (vVar 2) (vCal fTuple (vCons (vLc (sSeq (vVar 0)) (gN 3) (vC (.bl true)) (vC (.int 0)) [3]) vNil))) (vC .non) (vVar 2)))))))
def r_picks_bar : List OD → Rs := runD 2 4 [] (b_picks_bar)
theorem ok_picks_bar (G : Gx P K mg T) (O_check_group : OkF P w K mg base T 5 6 ["group"] (r_check_group)) (O_check_counts : OkF P w K mg base T 6 23 ["group", "counts"] (r_check_counts)) (O_bar_of : OkF P w K mg base T 5 24 ["group", "counts"] (r_bar_of)) : OkF P w K mg base T 7 25 ["group", "counts"] (r_picks_bar) := by
  exact okF_mk G.d_picks_bar sc_picks_bar (fun cdv A outer s H E hr => (fs_cons (fs_expr (pe_callG O_check_group (takes_of rfl rfl rfl rfl) (hr.mono (by decide)) rfl G.d_check_group.mg (ga_cons (pe_eV (pv_var (pv 0))) ga_nil)))
  (fs_cons (fs_expr (pe_callG O_check_counts (takes_of rfl rfl rfl rfl) (hr.mono (by decide)) rfl G.d_check_counts.mg (ga_cons (pe_eV (pv_var (pv 0))) (ga_cons (pe_eV (pv_var (pv 1))) ga_nil))))
  (fs_cons (fs_set sc_picks_bar.nd rfl (by first | exact Or.inl rfl | exact Or.inr rfl) (by decide) (pe_eF (pe_eV (pv_callG O_bar_of (hr.mono (by decide)) rfl G.d_bar_of.mg (fa_cons (pv_var (pv 0)) (fa_cons (pv_var (pv 1)) fa_nil))))))
  (fs_one (fs_ret (pe_eV (pv_if (ptv_cmp (op_eqD (room64 hr)) o_eq (pv_var (pv 2)) (pv_calT call_tuple_of c_tuple rfl G.b_tuple (by decide +kernel) (fa_cons (pv_lc (own := [(Str.ofString "_", 3)]) rfl rfl sc_picks_bar.nd (piv_seq (pv_var (pv 0))) (bo_mk rfl) (fun _ _ _ _ _ => (fg_name sc_picks_bar.nd rfl (by first | exact Or.inl rfl | exact Or.inr rfl) (by decide))) (fun _ _ _ _ _ => fts_nil) (fun _ _ _ _ _ => pv_int)) fa_nil)) (nomark _)) pv_non (pv_var (pv 2)))))))))) rfl (fun _ _ _ _ _ _ us hl => match us, hl with | [_, _], _ => rfl)
theorem sc_picked_days : FnScope ["group", "counts", "_", "turns", "first", "second", "days", "at", "turn"] ["group", "counts"] (defScope s_picked_days) := ⟨rfl, rfl, rfl, by decide +kernel, rfl, by decide +kernel, by decide +kernel⟩
def b_picked_days : SM :=
  (bSeq (bDrop (eCall r_check_group [.e (eV (vVar 0))]))
  (bSeq (bDrop (eCall r_check_counts [.e (eV (vVar 0)), .e (eV (vVar 1))]))
  (bSeq (bIf (eV (v2 fNe (vCall r_bar_of (vCons (vVar 0) (vCons (vVar 1) vNil))) (vCal fTuple (vCons (vLc (sSeq (vVar 0)) (gN 2) (vC (.bl true)) (vC (.int 0)) [2]) vNil))))
  (bRaise 4 (eV (vCall r_bar_of (vCons (vVar 0) (vCons (vVar 1) vNil)))))
  bNil)
  (bSeq (bSet 3 (eF (eV (vCall r_turns_in (vCons (vVar 0) vNil)))))
  (bSeq (bAsg (gT (gCons (gN 4) (gCons (gN 5) gNil))) (eV (vCall r_dealt_with (vCons (vVar 0) (vCons (vCall r_jobs_told (vCons (vVar 0) (vCons (vVar 1) vNil))) vNil)))))
  (bSeq (bSet 6 (eV (vLc (sSeq (vVar 3)) (gN 2) (vC (.bl true)) (vC .non) [2])))
  (bSeq (bFor (sEnE (eV (vVar 4))) (gT (gCons (gN 7) (gCons (gN 8) gNil)))
  (bSto 6 (v2 fIndex (vVar 3) (vVar 8)) (eV (v2 fIndex (vVar 3) (vCall r_minus_of (vCons (vVar 0) (vCons (vCal fTuple (vCons (vLc (sSeq (vVar 0)) (gN 2) (vC (.bl true)) (vC (.int 0)) [2]) vNil)) (vCons (v2 fIx (vVar 5) (vVar 7)) vNil))))))))
  (bRet (eMove 6)))))))))
def r_picked_days : List OD → Rs := runD 2 9 [] (b_picked_days)
theorem ok_picked_days (G : Gx P K mg T) (O_check_group : OkF P w K mg base T 5 6 ["group"] (r_check_group)) (O_turns_in : OkF P w K mg base T 3 7 ["group"] (r_turns_in)) (O_minus_of : OkF P w K mg base T 3 10 ["group", "turn", "other"] (r_minus_of)) (O_dealt_with : OkF P w K mg base T 5 18 ["group", "differences"] (r_dealt_with)) (O_jobs_told : OkF P w K mg base T 4 22 ["group", "counts"] (r_jobs_told)) (O_check_counts : OkF P w K mg base T 6 23 ["group", "counts"] (r_check_counts)) (O_bar_of : OkF P w K mg base T 5 24 ["group", "counts"] (r_bar_of)) : OkF P w K mg base T 7 26 ["group", "counts"] (r_picked_days) := by
  obtain ⟨C_Barred, hm_Barred, hk_Barred, hx_Barred⟩ := G.x_Barred
  have hi_Barred := G.i_Barred _ hm_Barred
  exact okF_mk G.d_picked_days sc_picked_days (fun cdv A outer s H E hr => (fs_cons (fs_expr (pe_callG O_check_group (takes_of rfl rfl rfl rfl) (hr.mono (by decide)) rfl G.d_check_group.mg (ga_cons (pe_eV (pv_var (pv 0))) ga_nil)))
  (fs_cons (fs_expr (pe_callG O_check_counts (takes_of rfl rfl rfl rfl) (hr.mono (by decide)) rfl G.d_check_counts.mg (ga_cons (pe_eV (pv_var (pv 0))) (ga_cons (pe_eV (pv_var (pv 1))) ga_nil))))
  (fs_cons (fs_if (ptE (ptv_cmp (op_neD (room64 hr)) o_ne (pv_callG O_bar_of (hr.mono (by decide)) rfl G.d_bar_of.mg (fa_cons (pv_var (pv 0)) (fa_cons (pv_var (pv 1)) fa_nil))) (pv_calT call_tuple_of c_tuple rfl G.b_tuple (by decide +kernel) (fa_cons (pv_lc (own := [(Str.ofString "_", 2)]) rfl rfl sc_picked_days.nd (piv_seq (pv_var (pv 0))) (bo_mk rfl) (fun _ _ _ _ _ => (fg_name sc_picked_days.nd rfl (by first | exact Or.inl rfl | exact Or.inr rfl) (by decide))) (fun _ _ _ _ _ => fts_nil) (fun _ _ _ _ _ => pv_int)) fa_nil)) (nomark _)))
  (fs_one (fs_raise rfl (takes_of rfl rfl rfl rfl) hx_Barred (hr.mono (by decide)) rfl hm_Barred hk_Barred (pe_eV (pv_callG O_bar_of (hr.mono (by decide)) rfl G.d_bar_of.mg (fa_cons (pv_var (pv 0)) (fa_cons (pv_var (pv 1)) fa_nil))))))
  fs_nil)
  (fs_cons (fs_set sc_picked_days.nd rfl (by first | exact Or.inl rfl | exact Or.inr rfl) (by decide) (pe_eF (pe_eV (pv_callG O_turns_in (hr.mono (by decide)) rfl G.d_turns_in.mg (fa_cons (pv_var (pv 0)) fa_nil)))))
  (fs_cons (fs_asg (vs := [4, 5]) (pe_eV (pv_callG O_dealt_with (hr.mono (by decide)) rfl G.d_dealt_with.mg (fa_cons (pv_var (pv 0)) (fa_cons (pv_callG O_jobs_told (hr.mono (by decide)) rfl G.d_jobs_told.mg (fa_cons (pv_var (pv 0)) (fa_cons (pv_var (pv 1)) fa_nil))) fa_nil)))) (fg_tup rfl (fg_cons (fg_name sc_picked_days.nd rfl (by first | exact Or.inl rfl | exact Or.inr rfl) (by decide)) (fg_cons (fg_name sc_picked_days.nd rfl (by first | exact Or.inl rfl | exact Or.inr rfl) (by decide)) fg_nil)) (gCons_len (gCons_len gNil_len))) (by decide))
  (fs_cons (fs_setLc (own := [(Str.ofString "_", 2)]) rfl rfl sc_picked_days.nd rfl rfl (by decide) (sw_true rfl rfl rfl rfl) (piv_seq (pv_var (pv 3))) (bo_mk rfl) (fun _ _ _ _ _ => (fg_name sc_picked_days.nd rfl (by first | exact Or.inl rfl | exact Or.inr rfl) (by decide))) (fun _ _ _ _ _ => fts_nil) (fun _ _ _ _ _ => pv_non))
  (fs_cons (fs_for (vs := [7, 8]) (passes_of rfl) rfl (pie_en (pe_eV (pv_var (pv 4))) rfl G.b_enumerate) (fg_tup rfl (fg_cons (fg_name sc_picked_days.nd rfl (by first | exact Or.inl rfl | exact Or.inr rfl) (by decide)) (fg_cons (fg_name sc_picked_days.nd rfl (by first | exact Or.inl rfl | exact Or.inr rfl) (by decide)) fg_nil)) (gCons_len (gCons_len gNil_len))) (by decide)
  (fs_one (fs_sto (pv 6) (pv_index (room65 hr) (pv_var (pv 3)) (pv_var (pv 8))) (pe_eV (pv_index (room65 hr) (pv_var (pv 3)) (pv_callG O_minus_of (hr.mono (by decide)) rfl G.d_minus_of.mg (fa_cons (pv_var (pv 0)) (fa_cons (pv_calT call_tuple_of c_tuple rfl G.b_tuple (by decide +kernel) (fa_cons (pv_lc (own := [(Str.ofString "_", 2)]) rfl rfl sc_picked_days.nd (piv_seq (pv_var (pv 0))) (bo_mk rfl) (fun _ _ _ _ _ => (fg_name sc_picked_days.nd rfl (by first | exact Or.inl rfl | exact Or.inr rfl) (by decide))) (fun _ _ _ _ _ => fts_nil) (fun _ _ _ _ _ => pv_int)) fa_nil)) (fa_cons (pv_ix (pv_var (pv 5)) (pv_var (pv 7))) fa_nil)))))))))
  (fs_one (fs_ret (pe_move (pv 6)))))))))))) rfl (fun _ _ _ _ _ _ us hl => match us, hl with | [_, _], _ => rfl)
theorem sc_are_picked_days : FnScope ["group", "counts", "value", "order", "turns", "jobs", "person", "day", "place", "job"] ["group", "counts", "value"] (defScope s_are_picked_days) := ⟨rfl, rfl, rfl, by decide +kernel, rfl, by decide +kernel, by decide +kernel⟩
def b_are_picked_days : SM :=
  (bSeq (bDrop (eCall r_check_group [.e (eV (vVar 0))]))
  (bSeq (bDrop (eCall r_check_counts [.e (eV (vVar 0)), .e (eV (vVar 1))]))
  (bSeq (bSet 3 (eF (eV (vCall r_order_of (vCons (vVar 0) vNil)))))
  (bSeq (bIf (eV (vOr (vNot (vCall r_is_row_of (vCons (vVar 3) (vCons (vVar 2) vNil)))) (v2 fNe vNever (vLRg (sR1 (vVar 3))))))
  (bRet (eV (vC (.bl false))))
  bNil)
  (bSeq (bSet 4 (eF (eV (vCall r_turns_in (vCons (vVar 0) vNil)))))
  (bSeq (bSet 5 (eF (eV (vLc (sEn (vVar 2)) (gT (gCons (gN 6) (gCons (gN 7) gNil))) (vC (.bl true)) (v2 fIndex (vVar 4) (vCall r_plus_of (vCons (vVar 0) (vCons (v2 fIx (vVar 4) (vVar 6)) (vCons (v2 fIx (vVar 4) (vVar 7)) vNil))))) [6, 7]))))
  (bRet (eV (v2 fEq (vLc (sR1 (vVar 3)) (gN 8) (vC (.bl true)) (vCal fLen (vCons (vLc (sSeq (vVar 5)) (gN 9) (v2 fEq (vVar 9) (vVar 8)) (vVar 9) [9]) vNil)) [8]) (vVar 1))))))))))
def r_are_picked_days : List OD → Rs := runD 3 10 [] (b_are_picked_days)
theorem ok_are_picked_days (G : Gx P K mg T) (O_is_row_of : OkF P w K mg base T 5 3 ["wide", "value"] (r_is_row_of)) (O_order_of : OkF P w K mg base T 3 4 ["group"] (r_order_of)) (O_check_group : OkF P w K mg base T 5 6 ["group"] (r_check_group)) (O_turns_in : OkF P w K mg base T 3 7 ["group"] (r_turns_in)) (O_plus_of : OkF P w K mg base T 3 9 ["group", "turn", "other"] (r_plus_of)) (O_check_counts : OkF P w K mg base T 6 23 ["group", "counts"] (r_check_counts)) : OkF P w K mg base T 7 27 ["group", "counts", "value"] (r_are_picked_days) := by
  exact okF_mk G.d_are_picked_days sc_are_picked_days (fun cdv A outer s H E hr => (fs_cons (fs_expr (pe_callG O_check_group (takes_of rfl rfl rfl rfl) (hr.mono (by decide)) rfl G.d_check_group.mg (ga_cons (pe_eV (pv_var (pv 0))) ga_nil)))
  (fs_cons (fs_expr (pe_callG O_check_counts (takes_of rfl rfl rfl rfl) (hr.mono (by decide)) rfl G.d_check_counts.mg (ga_cons (pe_eV (pv_var (pv 0))) (ga_cons (pe_eV (pv_var (pv 1))) ga_nil))))
  (fs_cons (fs_set sc_are_picked_days.nd rfl (by first | exact Or.inl rfl | exact Or.inr rfl) (by decide) (pe_eF (pe_eV (pv_callG O_order_of (hr.mono (by decide)) rfl G.d_order_of.mg (fa_cons (pv_var (pv 0)) fa_nil)))))
  (fs_cons (fs_if (ptE (PW.pt (pwv_or (ptv_not (pt_v (pv_callG O_is_row_of (hr.mono (by decide)) rfl G.d_is_row_of.mg (fa_cons (pv_var (pv 3)) (fa_cons (pv_var (pv 2)) fa_nil))))) (pwv_or1 (ptv_cmp (op_neD (room64 hr)) o_ne pv_never (pv_lr1 rfl (pv_var (pv 3)) rfl G.b_list rfl G.b_range) (nomark _))))))
  (fs_one (fs_ret (pe_eV pv_bl)))
  fs_nil)
  (fs_cons (fs_set sc_are_picked_days.nd rfl (by first | exact Or.inl rfl | exact Or.inr rfl) (by decide) (pe_eF (pe_eV (pv_callG O_turns_in (hr.mono (by decide)) rfl G.d_turns_in.mg (fa_cons (pv_var (pv 0)) fa_nil)))))
  (fs_cons (fs_set sc_are_picked_days.nd rfl (by first | exact Or.inl rfl | exact Or.inr rfl) (by decide) (pe_eF (pe_eV (pv_lc (own := [(Str.ofString "person", 6), (Str.ofString "day", 7)]) rfl rfl sc_are_picked_days.nd (piv_en (pv_var (pv 2)) rfl G.b_enumerate) (bo_mk rfl) (fun _ _ _ _ _ => (fg_tup rfl (fg_cons (fg_name sc_are_picked_days.nd rfl (by first | exact Or.inl rfl | exact Or.inr rfl) (by decide)) (fg_cons (fg_name sc_are_picked_days.nd rfl (by first | exact Or.inl rfl | exact Or.inr rfl) (by decide)) fg_nil)) (gCons_len (gCons_len gNil_len)))) (fun _ _ _ _ _ => fts_nil) (fun _ _ _ _ _ => (pv_index (room65 hr) (pv_var (pv 4)) (pv_callG O_plus_of (hr.mono (by decide)) rfl G.d_plus_of.mg (fa_cons (pv_var (pv 0)) (fa_cons (pv_ix (pv_var (pv 4)) (pv_var (pv 6))) (fa_cons (pv_ix (pv_var (pv 4)) (pv_var (pv 7))) fa_nil))))))))))
  (fs_one (fs_ret (pe_eV (pv_cmp (op_eqD (room64 hr)) o_eq (pv_lc (own := [(Str.ofString "place", 8)]) rfl rfl sc_are_picked_days.nd (piv_r1 (pv_var (pv 3)) rfl G.b_range) (bo_mk rfl) (fun _ _ _ _ _ => (fg_name sc_are_picked_days.nd rfl (by first | exact Or.inl rfl | exact Or.inr rfl) (by decide))) (fun _ _ _ _ _ => fts_nil) (fun _ _ _ _ _ => (pv_cal call_len c_len rfl G.b_len (by decide +kernel) (fa_cons (pv_lc (own := [(Str.ofString "job", 9)]) rfl rfl sc_are_picked_days.nd (piv_seq (pv_var (pv 5))) (bo_mk rfl) (fun _ _ _ _ _ => (fg_name sc_are_picked_days.nd rfl (by first | exact Or.inl rfl | exact Or.inr rfl) (by decide))) (fun _ _ _ _ _ => pts_one (ptv_cmp (op_eqD (room64 hr)) o_eq (pv_var (pv 9)) (pv_var (pv 8)) (nomark _))) (fun _ _ _ _ _ => (pv_var (pv 9)))) fa_nil)))) (pv_var (pv 1)) (nomark _)))))))))))) rfl (fun _ _ _ _ _ _ us hl => match us, hl with | [_, _, _], _ => rfl)
theorem sc_is_turning_number : FnScope ["group", "value"] ["group", "value"] (defScope s_is_turning_number) := ⟨rfl, rfl, rfl, by decide +kernel, rfl, by decide +kernel, by decide +kernel⟩
def b_is_turning_number : SM :=
  (bRet (eV (vCall r_is_below (vCons (vVar 1) (vCons (vCall r_order_of (vCons (vVar 0) vNil)) vNil)))))
def r_is_turning_number : List OD → Rs := runD 2 2 [] (b_is_turning_number)
theorem ok_is_turning_number (G : Gx P K mg T) (O_is_below : OkF P w K mg base T 5 2 ["value", "bound"] (r_is_below)) (O_order_of : OkF P w K mg base T 3 4 ["group"] (r_order_of)) : OkF P w K mg base T 6 28 ["group", "value"] (r_is_turning_number) := by
  exact okF_mk G.d_is_turning_number sc_is_turning_number (fun cdv A outer s H E hr => (fs_one (fs_ret (pe_eV (pv_callG O_is_below (hr.mono (by decide)) rfl G.d_is_below.mg (fa_cons (pv_var (pv 1)) (fa_cons (pv_callG O_order_of (hr.mono (by decide)) rfl G.d_order_of.mg (fa_cons (pv_var (pv 0)) fa_nil)) fa_nil))))))) rfl (fun _ _ _ _ _ _ us hl => match us, hl with | [_, _], _ => rfl)
theorem sc_turn_numbered : FnScope ["group", "number"] ["group", "number"] (defScope s_turn_numbered) := ⟨rfl, rfl, rfl, by decide +kernel, rfl, by decide +kernel, by decide +kernel⟩
def b_turn_numbered : SM :=
  (bSeq (bDrop (eCall r_check_group [.e (eV (vVar 0))]))
  (bSeq (bIf (eV (vNot (vCall r_is_turning_number (vCons (vVar 0) (vCons (vVar 1) vNil)))))
  (bRaise 1 (eV (vVar 1)))
  bNil)
  (bRet (eV (v2 fIx (vCall r_turns_in (vCons (vVar 0) vNil)) (vVar 1))))))
def r_turn_numbered : List OD → Rs := runD 2 2 [] (b_turn_numbered)
theorem ok_turn_numbered (G : Gx P K mg T) (O_check_group : OkF P w K mg base T 5 6 ["group"] (r_check_group)) (O_turns_in : OkF P w K mg base T 3 7 ["group"] (r_turns_in)) (O_is_turning_number : OkF P w K mg base T 6 28 ["group", "value"] (r_is_turning_number)) : OkF P w K mg base T 7 29 ["group", "number"] (r_turn_numbered) := by
  obtain ⟨C_InvalidNumber, hm_InvalidNumber, hk_InvalidNumber, hx_InvalidNumber⟩ := G.x_InvalidNumber
  have hi_InvalidNumber := G.i_InvalidNumber _ hm_InvalidNumber
  exact okF_mk G.d_turn_numbered sc_turn_numbered (fun cdv A outer s H E hr => (fs_cons (fs_expr (pe_callG O_check_group (takes_of rfl rfl rfl rfl) (hr.mono (by decide)) rfl G.d_check_group.mg (ga_cons (pe_eV (pv_var (pv 0))) ga_nil)))
  (fs_cons (fs_if (ptE (ptv_not (pt_v (pv_callG O_is_turning_number (hr.mono (by decide)) rfl G.d_is_turning_number.mg (fa_cons (pv_var (pv 0)) (fa_cons (pv_var (pv 1)) fa_nil))))))
  (fs_one (fs_raise rfl (takes_of rfl rfl rfl rfl) hx_InvalidNumber (hr.mono (by decide)) rfl hm_InvalidNumber hk_InvalidNumber (pe_eV (pv_var (pv 1)))))
  fs_nil)
  (fs_one (fs_ret (pe_eV (pv_ix (pv_callG O_turns_in (hr.mono (by decide)) rfl G.d_turns_in.mg (fa_cons (pv_var (pv 0)) fa_nil)) (pv_var (pv 1))))))))) rfl (fun _ _ _ _ _ _ us hl => match us, hl with | [_, _], _ => rfl)
theorem sc__law_hash : FnScope ["seed", "index", "mixed"] ["seed", "index"] (defScope s__law_hash) := ⟨rfl, rfl, rfl, by decide +kernel, rfl, by decide +kernel, by decide +kernel⟩
def b__law_hash : SM :=
  (bSeq (bSet 2 (eF (eV (v2 (fI2 iMod) (vCal fInt (vCons (v2 fAdd (v2 fAdd (v2 fAdd (v2 fMul (vVar 0) (vC (.int 1140671))) (v2 fMul (v2 fMul (vC (.int 27644437)) (vVar 1)) (vVar 1))) (v2 fMul (vC (.int 131)) (vVar 1))) (vC (.int 19))) vNil)) (vC (.int 2147483629))))))
  (bSeq (bSet 2 (eF (eV (v2 (fI2 iMod) (vCal fInt (vCons (v2 fAdd (v2 fAdd (v2 fMul (vVar 2) (vVar 2)) (v2 fMul (vC (.int 62089)) (vVar 1))) (vC (.int 32416187))) vNil)) (vC (.int 2147483587))))))
  (bRet (eV (v2 (fI2 iMod) (vCal fInt (vCons (v2 fMul (vVar 2) (vC (.int 48271))) vNil)) (vC (.int 2147483647)))))))
def r__law_hash : List OD → Rs := runD 2 3 [] (b__law_hash)
theorem ok__law_hash (G : Gx P K mg T) : OkF P w K mg base T 3 30 ["seed", "index"] (r__law_hash) := by
  exact okF_mk G.d__law_hash sc__law_hash (fun cdv A outer s H E hr => (fs_cons (fs_set sc__law_hash.nd rfl (by first | exact Or.inl rfl | exact Or.inr rfl) (by decide) (pe_eF (pe_eV (pv_bin op_mod o_mod (pv_calT call_int1 c_int rfl G.b_int (by decide +kernel) (fa_cons (pv_bin op_add4 o_add (pv_bin op_add4 o_add (pv_bin op_add4 o_add (pv_bin op_mul2 o_mul (pv_var (pv 0)) pv_int) (pv_bin op_mul2 o_mul (pv_bin op_mul2 o_mul pv_int (pv_var (pv 1))) (pv_var (pv 1)))) (pv_bin op_mul2 o_mul pv_int (pv_var (pv 1)))) pv_int) fa_nil)) pv_int))))
  (fs_cons (fs_set sc__law_hash.nd rfl (by first | exact Or.inl rfl | exact Or.inr rfl) (by decide) (pe_eF (pe_eV (pv_bin op_mod o_mod (pv_calT call_int1 c_int rfl G.b_int (by decide +kernel) (fa_cons (pv_bin op_add4 o_add (pv_bin op_add4 o_add (pv_bin op_mul2 o_mul (pv_var (pv 2)) (pv_var (pv 2))) (pv_bin op_mul2 o_mul pv_int (pv_var (pv 1)))) pv_int) fa_nil)) pv_int))))
  (fs_one (fs_ret (pe_eV (pv_bin op_mod o_mod (pv_calT call_int1 c_int rfl G.b_int (by decide +kernel) (fa_cons (pv_bin op_mul2 o_mul (pv_var (pv 2)) pv_int) fa_nil)) pv_int))))))) rfl (fun _ _ _ _ _ _ us hl => match us, hl with | [_, _], _ => rfl)
theorem sc__law_random : FnScope ["generator", "bound", "drawn", "turn"] ["generator", "bound"] (defScope s__law_random) := ⟨rfl, rfl, rfl, by decide +kernel, rfl, by decide +kernel, by decide +kernel⟩
def b__law_random : SM :=
  (bSeq (bIf (eV (v2 (fI2 iGt) (v2 fIx (vVar 0) (vC (.int 0))) (vC (.int 0))))
  (bSeq (bSet 2 (eF (eV (v2 (fI2 iMod) (vCal fInt (vCons (v2 fIx (vVar 0) (vC (.int 0))) vNil)) (vVar 1)))))
  (bSeq (bSto 0 (vC (.int 0)) (eV (v2 (fI2 iDiv) (v2 fIx (vVar 0) (vC (.int 0))) (vVar 1))))
  (bRet (eMove 2))))
  bNil)
  (bSeq (bSet 2 (eF (eV (vC (.int 0)))))
  (bSeq (bFor (sR1E (eV (v2 fAdd (vC (.int 1)) (v2 (fI2 iDiv) (vBits (vVar 1)) (vC (.int 30)))))) (gN 3)
  (bSeq (bSto 0 (vC (.int 2)) (eV (v2 fAdd (v2 fIx (vVar 0) (vC (.int 2))) (vC (.int 1)))))
  (bSet 2 (eF (eV (v2 fAdd (v2 fMul (vVar 2) (vC (.int 2147483587))) (vCall r__law_hash (vCons (v2 fIx (vVar 0) (vC (.int 1))) (vCons (v2 fIx (vVar 0) (vC (.int 2))) vNil)))))))))
  (bRet (eV (v2 (fI2 iMod) (vCal fInt (vCons (vVar 2) vNil)) (vVar 1)))))))
def r__law_random : List OD → Rs := runD 2 4 [0] (b__law_random)
theorem ok__law_random (G : Gx P K mg T) (O__law_hash : OkF P w K mg base T 3 30 ["seed", "index"] (r__law_hash)) : OkF P w K mg base T 4 31 ["generator", "bound"] (r__law_random) := by
  exact okF_mk G.d__law_random sc__law_random (fun cdv A outer s H E hr => (fs_cons (fs_if (ptE (ptv_cmp op_gt o_gt (pv_ix (pv_var (pv 0)) pv_int) pv_int (nomark _)))
  (fs_cons (fs_set sc__law_random.nd rfl (by first | exact Or.inl rfl | exact Or.inr rfl) (by decide) (pe_eF (pe_eV (pv_bin op_mod o_mod (pv_calT call_int1 c_int rfl G.b_int (by decide +kernel) (fa_cons (pv_ix (pv_var (pv 0)) pv_int) fa_nil)) (pv_var (pv 1))))))
  (fs_cons (fs_sto (pv 0) pv_int (pe_eV (pv_bin op_fdiv o_div (pv_ix (pv_var (pv 0)) pv_int) (pv_var (pv 1)))))
  (fs_one (fs_ret (pe_move (pv 2))))))
  fs_nil)
  (fs_cons (fs_set sc__law_random.nd rfl (by first | exact Or.inl rfl | exact Or.inr rfl) (by decide) (pe_eF (pe_eV pv_int)))
  (fs_cons (fs_for (vs := [3]) (passes_of rfl) rfl (pie_r1 (pe_eV (pv_bin op_add4 o_add pv_int (pv_bin op_fdiv o_div (pv_bits (pv_var (pv 1))) pv_int))) rfl G.b_range) (fg_name sc__law_random.nd rfl (by first | exact Or.inl rfl | exact Or.inr rfl) (by decide)) (by decide)
  (fs_cons (fs_sto (pv 0) pv_int (pe_eV (pv_bin op_add4 o_add (pv_ix (pv_var (pv 0)) pv_int) pv_int)))
  (fs_one (fs_set sc__law_random.nd rfl (by first | exact Or.inl rfl | exact Or.inr rfl) (by decide) (pe_eF (pe_eV (pv_bin op_add4 o_add (pv_bin op_mul2 o_mul (pv_var (pv 2)) pv_int) (pv_callG O__law_hash (hr.mono (by decide)) rfl G.d__law_hash.mg (fa_cons (pv_ix (pv_var (pv 0)) pv_int) (fa_cons (pv_ix (pv_var (pv 0)) pv_int) fa_nil))))))))))
  (fs_one (fs_ret (pe_eV (pv_bin op_mod o_mod (pv_calT call_int1 c_int rfl G.b_int (by decide +kernel) (fa_cons (pv_var (pv 2)) fa_nil)) (pv_var (pv 1)))))))))) rfl (fun _ _ _ _ _ _ us hl => match us, hl with | [_, _], _ => rfl)
theorem sc__law_cell : FnScope ["script", "index"] ["script", "index"] (defScope s__law_cell) := ⟨rfl, rfl, rfl, by decide +kernel, rfl, by decide +kernel, by decide +kernel⟩
def b__law_cell : SM :=
  (bSeq (bIf (eV (v2 (fI2 iLt) (vVar 1) (vCal fLen (vCons (vVar 0) vNil))))
  (bRet (eV (v2 fIx (vVar 0) (vVar 1))))
  bNil)
  (bRet (eV (v2 (fI2 iMod) (vCal fSum (vCons (vSl (vVar 0) pNo (pYes (vC (.int 1)))) vNil)) (vC (.int 1000003))))))
def r__law_cell : List OD → Rs := runD 2 2 [] (b__law_cell)
theorem ok__law_cell (G : Gx P K mg T) : OkF P w K mg base T 3 32 ["script", "index"] (r__law_cell) := by
  exact okF_mk G.d__law_cell sc__law_cell (fun cdv A outer s H E hr => (fs_cons (fs_if (ptE (ptv_cmp op_lt o_lt (pv_var (pv 1)) (pv_cal call_len c_len rfl G.b_len (by decide +kernel) (fa_cons (pv_var (pv 0)) fa_nil)) (nomark _)))
  (fs_one (fs_ret (pe_eV (pv_ix (pv_var (pv 0)) (pv_var (pv 1))))))
  fs_nil)
  (fs_one (fs_ret (pe_eV (pv_bin op_mod o_mod (pv_cal (cr_sum rfl) c_sum rfl G.b_sum (by decide +kernel) (fa_cons (pv_sl (pv_var (pv 0)) fo_none (fo_some pv_int)) fa_nil)) pv_int)))))) rfl (fun _ _ _ _ _ _ us hl => match us, hl with | [_, _], _ => rfl)
theorem sc__law_generator : FnScope ["script", "index", "seed"] ["script", "index"] (defScope s__law_generator) := ⟨rfl, rfl, rfl, by decide +kernel, rfl, by decide +kernel, by decide +kernel⟩
def b__law_generator : SM :=
  (bSeq (bSet 2 (eF (eV (vCall r__law_cell (vCons (vVar 0) (vCons (vVar 1) vNil))))))
  (bRet (eV (vLst (vCons (v2 (fI2 iMod) (vCal fInt (vCons (vCal fMax (vCons (v2 (fI2 iSub) (vVar 2) (v2 (fI2 iPow) (vC (.int 10)) (vC (.int 18)))) (vCons (vC (.int 0)) vNil))) vNil)) (v2 (fI2 iPow) (v2 (fI2 iPow) (vC (.int 10)) (vC (.int 60))) (vC (.int 10)))) (vCons (v2 (fI2 iMod) (vCal fInt (vCons (vVar 2) vNil)) (vC (.int 2147483647))) (vCons (v2 fMul (vC (.int 1000)) (vVar 1)) vNil)))))))
def r__law_generator : List OD → Rs := runD 2 3 [] (b__law_generator)
theorem ok__law_generator (G : Gx P K mg T) (O__law_cell : OkF P w K mg base T 3 32 ["script", "index"] (r__law_cell)) : OkF P w K mg base T 4 33 ["script", "index"] (r__law_generator) := by
  exact okF_mk G.d__law_generator sc__law_generator (fun cdv A outer s H E hr => (fs_cons (fs_set sc__law_generator.nd rfl (by first | exact Or.inl rfl | exact Or.inr rfl) (by decide) (pe_eF (pe_eV (pv_callG O__law_cell (hr.mono (by decide)) rfl G.d__law_cell.mg (fa_cons (pv_var (pv 0)) (fa_cons (pv_var (pv 1)) fa_nil))))))
  (fs_one (fs_ret (pe_eV (pv_lst (fa_cons (pv_bin op_mod o_mod (pv_calT call_int1 c_int rfl G.b_int (by decide +kernel) (fa_cons (pv_cal (call_maxG rfl) c_max rfl G.b_max (by decide +kernel) (fa_cons (pv_bin op_sub o_sub (pv_var (pv 2)) (pv_bin op_powW o_pow pv_int pv_int)) (fa_cons pv_int fa_nil))) fa_nil)) (pv_bin op_powW o_pow (pv_bin op_powW o_pow pv_int pv_int) pv_int)) (fa_cons (pv_bin op_mod o_mod (pv_calT call_int1 c_int rfl G.b_int (by decide +kernel) (fa_cons (pv_var (pv 2)) fa_nil)) pv_int) (fa_cons (pv_bin op_mul2 o_mul pv_int (pv_var (pv 1))) fa_nil))))))))) rfl (fun _ _ _ _ _ _ us hl => match us, hl with | [_, _], _ => rfl)
theorem sc__law_pick : FnScope ["generator", "things"] ["generator", "things"] (defScope s__law_pick) := ⟨rfl, rfl, rfl, by decide +kernel, rfl, by decide +kernel, by decide +kernel⟩
def b__law_pick : SM :=
  (bRet (e2 fIx (eV (vVar 1)) (eCall r__law_random [.l 0, .e (eV (vCal fLen (vCons (vVar 1) vNil)))])))
def r__law_pick : List OD → Rs := runD 2 2 [0] (b__law_pick)
theorem ok__law_pick (G : Gx P K mg T) (O__law_random : OkF P w K mg base T 4 31 ["generator", "bound"] (r__law_random)) : OkF P w K mg base T 5 34 ["generator", "things"] (r__law_pick) := by
  exact okF_mk G.d__law_pick sc__law_pick (fun cdv A outer s H E hr => (fs_one (fs_ret (pe_ixE (pe_eV (pv_var (pv 1))) (pe_callG O__law_random (takes_of rfl rfl rfl rfl) (hr.mono (by decide)) rfl G.d__law_random.mg (ga_lend (pv 0) (ga_cons (pe_eV (pv_cal call_len c_len rfl G.b_len (by decide +kernel) (fa_cons (pv_var (pv 1)) fa_nil))) ga_nil))))))) rfl (fun _ _ _ _ _ _ us hl => match us, hl with | [_, _], _ => rfl)
theorem sc__law_same : FnScope ["told", "due", "at"] ["told", "due"] (defScope s__law_same) := ⟨rfl, rfl, rfl, by decide +kernel, rfl, by decide +kernel, by decide +kernel⟩
def b__law_same (self : List OD → Rs) : SM :=
  (bSeq (bIf (eV (vOr (v2 fIsN (vVar 1) (vC .non)) (vOr (v2 fIsB (vVar 1) (vC (.bl true))) (v2 fIsB (vVar 1) (vC (.bl false))))))
  (bRet (eV (vIf (v2 fIsN (vVar 1) (vC .non)) (v2 fIsN (vVar 0) (vC .non)) (vIf (v2 fIsB (vVar 1) (vC (.bl true))) (v2 fIsB (vVar 0) (vC (.bl true))) (v2 fIsB (vVar 0) (vC (.bl false)))))))
  bNil)
  (bSeq (bIf (eV (vIsi ["list", "tuple"] (vVar 1)))
  (bSeq (bIf (eV (vOr (vAnd (vNot (vIsi ["list"] (vVar 0))) (vIsi ["list"] (vVar 1))) (vAnd (vNot (vIsi ["tuple"] (vVar 0))) (vIsi ["tuple"] (vVar 1)))))
  (bRet (eV (vC (.bl false))))
  bNil)
  (bRet (eV (vAnd (v2 fEq (vCal fLen (vCons (vVar 0) vNil)) (vCal fLen (vCons (vVar 1) vNil))) (v2 fEq (vLc (sR1 (vCal fLen (vCons (vVar 1) vNil))) (gN 2) (vNot (vCall self (vCons (v2 fIx (vVar 0) (vVar 2)) (vCons (v2 fIx (vVar 1) (vVar 2)) vNil)))) (vVar 2) [2]) (vLst vNil))))))
  bNil)
  (bSeq (bIf (eV (vIsi ["int"] (vVar 1)))
  (bRet (eV (vAnd (vIsi ["int"] (vVar 0)) (vAnd (vNot (vIsi ["bool"] (vVar 0))) (v2 fEq (vVar 0) (vVar 1))))))
  bNil)
  (bRet (eV (vAnd (vIsi ["str"] (vVar 0)) (v2 fEq (vVar 0) (vVar 1))))))))
def r__law_same : Nat → List OD → Rs
  | 0 => fun _ => .st
  | n + 1 => runD 2 3 [] (b__law_same (r__law_same n))
theorem ok__law_same (G : Gx P K mg T) : ∀ n : Nat, OkF P w K mg base T (3 + n) 35 ["told", "due"] (r__law_same n)
  | 0 => okF_st (N := 2) G.d__law_same (fun _ _ _ _ _ _ us hl => match us, hl with | [_, _], _ => rfl)
  | n + 1 => by
    have OS := ok__law_same G n
    exact okF_mk G.d__law_same sc__law_same (fun cdv A outer s H E hr => (fs_cons (fs_if (ptE (PW.pt (pwv_or (ptv_cmp op_isN o_isN (pv_var (pv 1)) pv_non (nomark _)) (pwv_or (ptv_cmp op_isB o_isB (pv_var (pv 1)) pv_bl (nomark _)) (pwv_or1 (ptv_cmp op_isB o_isB (pv_var (pv 1)) pv_bl (nomark _)))))))
  (fs_one (fs_ret (pe_eV (pv_if (ptv_cmp op_isN o_isN (pv_var (pv 1)) pv_non (nomark _)) (pv_cmp op_isN o_isN (pv_var (pv 0)) pv_non (nomark _)) (pv_if (ptv_cmp op_isB o_isB (pv_var (pv 1)) pv_bl (nomark _)) (pv_cmp op_isB o_isB (pv_var (pv 0)) pv_bl (nomark _)) (pv_cmp op_isB o_isB (pv_var (pv 0)) pv_bl (nomark _)))))))
  fs_nil)
  (fs_cons (fs_if (ptE (pt_v (pv_isi2 (c := "list") (c' := "tuple") (pv_var (pv 1)) rfl G.b_isinstance rfl G.b_list (by decide +kernel) (by decide) rfl G.b_tuple (by decide +kernel) (by decide))))
  (fs_cons (fs_if (ptE (PW.pt (pwv_or (PW.pt (pwv_and (ptv_not (pt_v (pv_isi (c := "list") (pv_var (pv 0)) rfl G.b_isinstance rfl G.b_list (by decide +kernel) (by decide)))) (pwv_and1 (pt_v (pv_isi (c := "list") (pv_var (pv 1)) rfl G.b_isinstance rfl G.b_list (by decide +kernel) (by decide)))))) (pwv_or1 (PW.pt (pwv_and (ptv_not (pt_v (pv_isi (c := "tuple") (pv_var (pv 0)) rfl G.b_isinstance rfl G.b_tuple (by decide +kernel) (by decide)))) (pwv_and1 (pt_v (pv_isi (c := "tuple") (pv_var (pv 1)) rfl G.b_isinstance rfl G.b_tuple (by decide +kernel) (by decide))))))))))
  (fs_one (fs_ret (pe_eV pv_bl)))
  fs_nil)
  (fs_one (fs_ret (pe_eV (pv_and (pv_cmp (op_eqD (room64 hr)) o_eq (pv_cal call_len c_len rfl G.b_len (by decide +kernel) (fa_cons (pv_var (pv 0)) fa_nil)) (pv_cal call_len c_len rfl G.b_len (by decide +kernel) (fa_cons (pv_var (pv 1)) fa_nil)) (nomark _)) (pv_one (pv_cmp (op_eqD (room64 hr)) o_eq (pv_lc (own := [(Str.ofString "at", 2)]) rfl rfl sc__law_same.nd (piv_r1 (pv_cal call_len c_len rfl G.b_len (by decide +kernel) (fa_cons (pv_var (pv 1)) fa_nil)) rfl G.b_range) (bo_mk rfl) (fun _ _ _ _ _ => (fg_name sc__law_same.nd rfl (by first | exact Or.inl rfl | exact Or.inr rfl) (by decide))) (fun _ _ _ _ _ => pts_one (ptv_not (pt_v (pv_callG OS hr rfl G.d__law_same.mg (fa_cons (pv_ix (pv_var (pv 0)) (pv_var (pv 2))) (fa_cons (pv_ix (pv_var (pv 1)) (pv_var (pv 2))) fa_nil)))))) (fun _ _ _ _ _ => (pv_var (pv 2)))) (pv_lst fa_nil) (nomark _))))))))
  fs_nil)
  (fs_cons (fs_if (ptE (pt_v (pv_isi (c := "int") (pv_var (pv 1)) rfl G.b_isinstance rfl G.b_int (by decide +kernel) (by decide))))
  (fs_one (fs_ret (pe_eV (pv_and (pv_isi (c := "int") (pv_var (pv 0)) rfl G.b_isinstance rfl G.b_int (by decide +kernel) (by decide)) (pv_and (pv_not (pv_isi (c := "bool") (pv_var (pv 0)) rfl G.b_isinstance rfl G.b_bool (by decide +kernel) (by decide))) (pv_one (pv_cmp (op_eqD (room64 hr)) o_eq (pv_var (pv 0)) (pv_var (pv 1)) (nomark _))))))))
  fs_nil)
  (fs_one (fs_ret (pe_eV (pv_and (pv_isi (c := "str") (pv_var (pv 0)) rfl G.b_isinstance rfl G.b_str (by decide +kernel) (by decide)) (pv_one (pv_cmp (op_eqD (room64 hr)) o_eq (pv_var (pv 0)) (pv_var (pv 1)) (nomark _))))))))))) rfl (fun _ _ _ _ _ _ us hl => match us, hl with | [_, _], _ => rfl)
theorem sc__law_call : FnScope ["deed", "args"] ["deed", "args"] (defScope s__law_call) := ⟨rfl, rfl, rfl, by decide +kernel, rfl, by decide +kernel, by decide +kernel⟩
def b__law_call (tab : Nat → Option (List OD → Rs)) : SM :=
  (bSeq (bIf (eV (v2 fEq (vCal fLen (vCons (vVar 1) vNil)) (vC (.int 1))))
  (bRet (eCallT tab 0 [.e (eV (v2 fIx (vVar 1) (vC (.int 0))))]))
  bNil)
  (bSeq (bIf (eV (v2 fEq (vCal fLen (vCons (vVar 1) vNil)) (vC (.int 2))))
  (bRet (eCallT tab 0 [.e (eV (v2 fIx (vVar 1) (vC (.int 0)))), .e (eV (v2 fIx (vVar 1) (vC (.int 1))))]))
  bNil)
  (bSeq (bIf (eV (v2 fEq (vCal fLen (vCons (vVar 1) vNil)) (vC (.int 3))))
  (bRet (eCallT tab 0 [.e (eV (v2 fIx (vVar 1) (vC (.int 0)))), .e (eV (v2 fIx (vVar 1) (vC (.int 1)))), .e (eV (v2 fIx (vVar 1) (vC (.int 2))))]))
  bNil)
  (bSeq (bIf (eV (v2 fEq (vCal fLen (vCons (vVar 1) vNil)) (vC (.int 4))))
  (bRet (eCallT tab 0 [.e (eV (v2 fIx (vVar 1) (vC (.int 0)))), .e (eV (v2 fIx (vVar 1) (vC (.int 1)))), .e (eV (v2 fIx (vVar 1) (vC (.int 2)))), .e (eV (v2 fIx (vVar 1) (vC (.int 3))))]))
  bNil)
  (bRet (eCallT tab 0 [.e (eV (v2 fIx (vVar 1) (vC (.int 0)))), .e (eV (v2 fIx (vVar 1) (vC (.int 1)))), .e (eV (v2 fIx (vVar 1) (vC (.int 2)))), .e (eV (v2 fIx (vVar 1) (vC (.int 3)))), .e (eV (v2 fIx (vVar 1) (vC (.int 4))))]))))))
def r__law_call (tab : Nat → Option (List OD → Rs)) : List OD → Rs := runD 2 2 [] (b__law_call tab)
theorem ok__law_call (G : Gx P K mg T) (tab : Nat → Option (List OD → Rs)) (HTab : ∀ j g, tab j = some g → ∃ ps, OkF P w K mg base T 9 j ps g) : OkF P w K mg base T 10 36 ["deed", "args"] (r__law_call tab) := by
  have HT : ∀ (X : Cx), X.prog = P → X.w = w → X.K = K → X.mg = mg → X.base = base → TabOk X T 9 tab := fun X e1 e2 e3 e4 e5 j g hg => by
    subst e1 e2 e3 e4 e5
    obtain ⟨ps, O⟩ := HTab j g hg
    obtain ⟨fd, F, hk, hb⟩ := O.ex
    exact ⟨fd, ps, F, hk, hb⟩
  exact okF_mk G.d__law_call sc__law_call (fun cdv A outer s H E hr => (fs_cons (fs_if (ptE (ptv_cmp (op_eqD (room64 hr)) o_eq (pv_cal call_len c_len rfl G.b_len (by decide +kernel) (fa_cons (pv_var (pv 1)) fa_nil)) pv_int (nomark _)))
  (fs_one (fs_ret (pe_callT (HT _ rfl rfl rfl rfl rfl) (takes_of rfl rfl rfl rfl) (hr.mono (by decide)) (pv 0) (ga_cons (pe_eV (pv_ix (pv_var (pv 1)) pv_int)) ga_nil))))
  fs_nil)
  (fs_cons (fs_if (ptE (ptv_cmp (op_eqD (room64 hr)) o_eq (pv_cal call_len c_len rfl G.b_len (by decide +kernel) (fa_cons (pv_var (pv 1)) fa_nil)) pv_int (nomark _)))
  (fs_one (fs_ret (pe_callT (HT _ rfl rfl rfl rfl rfl) (takes_of rfl rfl rfl rfl) (hr.mono (by decide)) (pv 0) (ga_cons (pe_eV (pv_ix (pv_var (pv 1)) pv_int)) (ga_cons (pe_eV (pv_ix (pv_var (pv 1)) pv_int)) ga_nil)))))
  fs_nil)
  (fs_cons (fs_if (ptE (ptv_cmp (op_eqD (room64 hr)) o_eq (pv_cal call_len c_len rfl G.b_len (by decide +kernel) (fa_cons (pv_var (pv 1)) fa_nil)) pv_int (nomark _)))
  (fs_one (fs_ret (pe_callT (HT _ rfl rfl rfl rfl rfl) (takes_of rfl rfl rfl rfl) (hr.mono (by decide)) (pv 0) (ga_cons (pe_eV (pv_ix (pv_var (pv 1)) pv_int)) (ga_cons (pe_eV (pv_ix (pv_var (pv 1)) pv_int)) (ga_cons (pe_eV (pv_ix (pv_var (pv 1)) pv_int)) ga_nil))))))
  fs_nil)
  (fs_cons (fs_if (ptE (ptv_cmp (op_eqD (room64 hr)) o_eq (pv_cal call_len c_len rfl G.b_len (by decide +kernel) (fa_cons (pv_var (pv 1)) fa_nil)) pv_int (nomark _)))
  (fs_one (fs_ret (pe_callT (HT _ rfl rfl rfl rfl rfl) (takes_of rfl rfl rfl rfl) (hr.mono (by decide)) (pv 0) (ga_cons (pe_eV (pv_ix (pv_var (pv 1)) pv_int)) (ga_cons (pe_eV (pv_ix (pv_var (pv 1)) pv_int)) (ga_cons (pe_eV (pv_ix (pv_var (pv 1)) pv_int)) (ga_cons (pe_eV (pv_ix (pv_var (pv 1)) pv_int)) ga_nil)))))))
  fs_nil)
  (fs_one (fs_ret (pe_callT (HT _ rfl rfl rfl rfl rfl) (takes_of rfl rfl rfl rfl) (hr.mono (by decide)) (pv 0) (ga_cons (pe_eV (pv_ix (pv_var (pv 1)) pv_int)) (ga_cons (pe_eV (pv_ix (pv_var (pv 1)) pv_int)) (ga_cons (pe_eV (pv_ix (pv_var (pv 1)) pv_int)) (ga_cons (pe_eV (pv_ix (pv_var (pv 1)) pv_int)) (ga_cons (pe_eV (pv_ix (pv_var (pv 1)) pv_int)) ga_nil))))))))))))) rfl (fun _ _ _ _ _ _ us hl => match us, hl with | [_, _], _ => rfl)
theorem sc__law_mark : FnScope ["deed", "args", "mark", "e"] ["deed", "args"] (defScope s__law_mark) := ⟨rfl, rfl, rfl, by decide +kernel, rfl, by decide +kernel, by decide +kernel⟩
def b__law_mark (tab : Nat → Option (List OD → Rs)) : SM :=
  (bSeq (bSet 2 (eF (eV (vC .non))))
  (bSeq (bTry 3 2 [0, 1, 2, 3, 4]
  (bDrop (eCall (r__law_call tab) [.e (eV (vVar 0)), .e (eV (vVar 1))])))
  (bRet (eMove 2))))
def r__law_mark (tab : Nat → Option (List OD → Rs)) : List OD → Rs := runD 2 4 [] (b__law_mark tab)
theorem ok__law_mark (G : Gx P K mg T) (tab : Nat → Option (List OD → Rs)) (O__law_call : OkF P w K mg base T 10 36 ["deed", "args"] (r__law_call tab)) : OkF P w K mg base T 11 37 ["deed", "args"] (r__law_mark tab) := by
  obtain ⟨C_RotaError, hm_RotaError, he_RotaError⟩ := G.e_RotaError
  exact okF_mk G.d__law_mark sc__law_mark (fun cdv A outer s H E hr => (fs_cons (fs_set sc__law_mark.nd rfl (by first | exact Or.inl rfl | exact Or.inr rfl) (by decide) (pe_eF (pe_eV pv_non)))
  (fs_cons (fs_try rfl rfl rfl sc__law_mark.nd rfl rfl rfl rfl ⟨rfl, by decide, Or.inl hm_RotaError⟩ he_RotaError (by decide) (by decide) (fun W pn xe tk hp => (fs_one (fs_expr (pe_callG O__law_call tk (hr.mono (by decide)) rfl G.d__law_call.mg (ga_cons (pe_eV (pv_var (pv 0))) (ga_cons (pe_eV (pv_var (pv 1))) ga_nil)))))))
  (fs_one (fs_ret (pe_move (pv 2))))))) rfl (fun _ _ _ _ _ _ us hl => match us, hl with | [_, _], _ => rfl)
theorem sc__law_is_kind : FnScope ["mark", "kind"] ["mark", "kind"] (defScope s__law_is_kind) := ⟨rfl, rfl, rfl, by decide +kernel, rfl, by decide +kernel, by decide +kernel⟩
def b__law_is_kind : SM :=
  (bSeq (bIf (eV (v2 fEq (vVar 1) (vC (.str "InvalidCounts"))))
  (bRet (eV (v1 (fIsX (isx 3)) (vVar 0))))
  bNil)
  (bSeq (bIf (eV (v2 fEq (vVar 1) (vC (.str "InvalidGroup"))))
  (bRet (eV (v1 (fIsX (isx 2)) (vVar 0))))
  bNil)
  (bSeq (bIf (eV (v2 fEq (vVar 1) (vC (.str "InvalidNumber"))))
  (bRet (eV (v1 (fIsX (isx 1)) (vVar 0))))
  bNil)
  (bSeq (bIf (eV (v2 fEq (vVar 1) (vC (.str "InvalidTable"))))
  (bRet (eV (v1 (fIsX (isx 0)) (vVar 0))))
  bNil)
  (bRet (eV (vC (.bl false))))))))
def r__law_is_kind : List OD → Rs := runD 2 2 [] (b__law_is_kind)
theorem ok__law_is_kind (G : Gx P K mg T) : OkF P w K mg base T 3 43 ["mark", "kind"] (r__law_is_kind) := by
  obtain ⟨C_InvalidCounts, hm_InvalidCounts, hk_InvalidCounts, hx_InvalidCounts⟩ := G.x_InvalidCounts
  have hi_InvalidCounts := G.i_InvalidCounts _ hm_InvalidCounts
  obtain ⟨C_InvalidGroup, hm_InvalidGroup, hk_InvalidGroup, hx_InvalidGroup⟩ := G.x_InvalidGroup
  have hi_InvalidGroup := G.i_InvalidGroup _ hm_InvalidGroup
  obtain ⟨C_InvalidNumber, hm_InvalidNumber, hk_InvalidNumber, hx_InvalidNumber⟩ := G.x_InvalidNumber
  have hi_InvalidNumber := G.i_InvalidNumber _ hm_InvalidNumber
  obtain ⟨C_InvalidTable, hm_InvalidTable, hk_InvalidTable, hx_InvalidTable⟩ := G.x_InvalidTable
  have hi_InvalidTable := G.i_InvalidTable _ hm_InvalidTable
  exact okF_mk G.d__law_is_kind sc__law_is_kind (fun cdv A outer s H E hr => (fs_cons (fs_if (ptE (ptv_cmp (op_eqD (room64 hr)) o_eq (pv_var (pv 1)) pv_str (nomark _)))
  (fs_one (fs_ret (pe_eV (pv_isx (pv_var (pv 0)) rfl G.b_isinstance rfl hm_InvalidCounts hi_InvalidCounts))))
  fs_nil)
  (fs_cons (fs_if (ptE (ptv_cmp (op_eqD (room64 hr)) o_eq (pv_var (pv 1)) pv_str (nomark _)))
  (fs_one (fs_ret (pe_eV (pv_isx (pv_var (pv 0)) rfl G.b_isinstance rfl hm_InvalidGroup hi_InvalidGroup))))
  fs_nil)
  (fs_cons (fs_if (ptE (ptv_cmp (op_eqD (room64 hr)) o_eq (pv_var (pv 1)) pv_str (nomark _)))
  (fs_one (fs_ret (pe_eV (pv_isx (pv_var (pv 0)) rfl G.b_isinstance rfl hm_InvalidNumber hi_InvalidNumber))))
  fs_nil)
  (fs_cons (fs_if (ptE (ptv_cmp (op_eqD (room64 hr)) o_eq (pv_var (pv 1)) pv_str (nomark _)))
  (fs_one (fs_ret (pe_eV (pv_isx (pv_var (pv 0)) rfl G.b_isinstance rfl hm_InvalidTable hi_InvalidTable))))
  fs_nil)
  (fs_one (fs_ret (pe_eV pv_bl)))))))) rfl (fun _ _ _ _ _ _ us hl => match us, hl with | [_, _], _ => rfl)
theorem sc__law_raised : FnScope ["deed", "args", "kind", "value", "mark"] ["deed", "args", "kind", "value"] (defScope s__law_raised) := ⟨rfl, rfl, rfl, by decide +kernel, rfl, by decide +kernel, by decide +kernel⟩
def b__law_raised (tab : Nat → Option (List OD → Rs)) : SM :=
  (bSeq (bSet 4 (eF (eV (vCall (r__law_mark tab) (vCons (vVar 0) (vCons (vVar 1) vNil))))))
  (bRet (eV (vAnd (v2 fNotN (vVar 4) (vC .non)) (vAnd (vCall r__law_is_kind (vCons (vVar 4) (vCons (vVar 2) vNil))) (vCall (r__law_same 8) (vCons (v1 fVal (vVar 4)) (vCons (vVar 3) vNil))))))))
def r__law_raised (tab : Nat → Option (List OD → Rs)) : List OD → Rs := runD 4 5 [] (b__law_raised tab)
theorem ok__law_raised (G : Gx P K mg T) (tab : Nat → Option (List OD → Rs)) (O__law_same : OkF P w K mg base T 11 35 ["told", "due"] (r__law_same 8)) (O__law_mark : OkF P w K mg base T 11 37 ["deed", "args"] (r__law_mark tab)) (O__law_is_kind : OkF P w K mg base T 3 43 ["mark", "kind"] (r__law_is_kind)) : OkF P w K mg base T 12 38 ["deed", "args", "kind", "value"] (r__law_raised tab) := by
  exact okF_mk G.d__law_raised sc__law_raised (fun cdv A outer s H E hr => (fs_cons (fs_set sc__law_raised.nd rfl (by first | exact Or.inl rfl | exact Or.inr rfl) (by decide) (pe_eF (pe_eV (pv_callG O__law_mark (hr.mono (by decide)) rfl G.d__law_mark.mg (fa_cons (pv_var (pv 0)) (fa_cons (pv_var (pv 1)) fa_nil))))))
  (fs_one (fs_ret (pe_eV (pv_and (pv_cmp op_notN o_notN (pv_var (pv 4)) pv_non (nomark _)) (pv_and (pv_callG O__law_is_kind (hr.mono (by decide)) rfl G.d__law_is_kind.mg (fa_cons (pv_var (pv 4)) (fa_cons (pv_var (pv 2)) fa_nil))) (pv_one (pv_callG O__law_same (hr.mono (by decide)) rfl G.d__law_same.mg (fa_cons (pv_val G.xr (pv_var (pv 4))) (fa_cons (pv_var (pv 3)) fa_nil))))))))))) rfl (fun _ _ _ _ _ _ us hl => match us, hl with | [_, _, _, _], _ => rfl)
theorem sc__law_refused : FnScope ["deed", "args", "at", "kind", "wrong", "blank", "thing"] ["deed", "args", "at", "kind", "wrong"] (defScope s__law_refused) := ⟨rfl, rfl, rfl, by decide +kernel, rfl, by decide +kernel, by decide +kernel⟩
def b__law_refused (tab : Nat → Option (List OD → Rs)) : SM :=
  (bSeq (bSet 5 (eF (eV (v2 fAdd (v2 fAdd (vSl (vVar 1) pNo (pYes (vVar 2))) (vLst (vCons (vVar 4) vNil))) (vLc (sSeq (vSl (vVar 1) (pYes (v2 fAdd (vVar 2) (vC (.int 1)))) pNo)) (gN 6) (vC (.bl true)) (vC .non) [6])))))
  (bSeq (bIf (eV (vNot (vCall (r__law_raised tab) (vCons (vVar 0) (vCons (vVar 5) (vCons (vVar 3) (vCons (vVar 4) vNil)))))))
  (bRet (eV (vC (.bl false))))
  bNil)
  (bRet (eV (vCall (r__law_raised tab) (vCons (vVar 0) (vCons (v2 fAdd (v2 fAdd (vSl (vVar 1) pNo (pYes (vVar 2))) (vLst (vCons (vVar 4) vNil))) (vSl (vVar 1) (pYes (v2 fAdd (vVar 2) (vC (.int 1)))) pNo)) (vCons (vVar 3) (vCons (vVar 4) vNil)))))))))
def r__law_refused (tab : Nat → Option (List OD → Rs)) : List OD → Rs := runD 5 7 [] (b__law_refused tab)
theorem ok__law_refused (G : Gx P K mg T) (tab : Nat → Option (List OD → Rs)) (O__law_raised : OkF P w K mg base T 12 38 ["deed", "args", "kind", "value"] (r__law_raised tab)) : OkF P w K mg base T 13 39 ["deed", "args", "at", "kind", "wrong"] (r__law_refused tab) := by
  exact okF_mk G.d__law_refused sc__law_refused (fun cdv A outer s H E hr => (fs_cons (fs_set sc__law_refused.nd rfl (by first | exact Or.inl rfl | exact Or.inr rfl) (by decide) (pe_eF (pe_eV (pv_bin op_add4 o_add (pv_bin op_add4 o_add (pv_sl (pv_var (pv 1)) fo_none (fo_some (pv_var (pv 2)))) (pv_lst (fa_cons (pv_var (pv 4)) fa_nil))) (pv_lc (own := [(Str.ofString "thing", 6)]) rfl rfl sc__law_refused.nd (piv_seq (pv_sl (pv_var (pv 1)) (fo_some (pv_bin op_add4 o_add (pv_var (pv 2)) pv_int)) fo_none)) (bo_mk rfl) (fun _ _ _ _ _ => (fg_name sc__law_refused.nd rfl (by first | exact Or.inl rfl | exact Or.inr rfl) (by decide))) (fun _ _ _ _ _ => fts_nil) (fun _ _ _ _ _ => pv_non))))))
  (fs_cons (fs_if (ptE (ptv_not (pt_v (pv_callG O__law_raised (hr.mono (by decide)) rfl G.d__law_raised.mg (fa_cons (pv_var (pv 0)) (fa_cons (pv_var (pv 5)) (fa_cons (pv_var (pv 3)) (fa_cons (pv_var (pv 4)) fa_nil))))))))
  (fs_one (fs_ret (pe_eV pv_bl)))
  fs_nil)
  (fs_one (fs_ret (pe_eV (pv_callG O__law_raised (hr.mono (by decide)) rfl G.d__law_raised.mg (fa_cons (pv_var (pv 0)) (fa_cons (pv_bin op_add4 o_add (pv_bin op_add4 o_add (pv_sl (pv_var (pv 1)) fo_none (fo_some (pv_var (pv 2)))) (pv_lst (fa_cons (pv_var (pv 4)) fa_nil))) (pv_sl (pv_var (pv 1)) (fo_some (pv_bin op_add4 o_add (pv_var (pv 2)) pv_int)) fo_none)) (fa_cons (pv_var (pv 3)) (fa_cons (pv_var (pv 4)) fa_nil))))))))))) rfl (fun _ _ _ _ _ _ us hl => match us, hl with | [_, _, _, _, _], _ => rfl)
theorem sc__law_all_refused : FnScope ["deeds", "at", "kind", "wrongs", "deed", "args", "wrong"] ["deeds", "at", "kind", "wrongs"] (defScope s__law_all_refused) := ⟨rfl, rfl, rfl, by decide +kernel, rfl, by decide +kernel, by decide +kernel⟩
def b__law_all_refused (tab : Nat → Option (List OD → Rs)) : SM :=
  (bSeq (bFor (sSeqE (eV (vVar 0))) (gT (gCons (gN 4) (gCons (gN 5) gNil)))
  (bIf (eV (v2 fNe (vLc (sSeq (vVar 3)) (gN 6) (vNot (vCall (r__law_refused tab) (vCons (vVar 4) (vCons (vVar 5) (vCons (vVar 1) (vCons (vVar 2) (vCons (vVar 6) vNil))))))) (vVar 6) [6]) (vLst vNil)))
  (bRet (eV (vC (.bl false))))
  bNil))
  (bRet (eV (vC (.bl true)))))
def r__law_all_refused (tab : Nat → Option (List OD → Rs)) : List OD → Rs := runD 4 7 [] (b__law_all_refused tab)
theorem ok__law_all_refused (G : Gx P K mg T) (tab : Nat → Option (List OD → Rs)) (O__law_refused : OkF P w K mg base T 13 39 ["deed", "args", "at", "kind", "wrong"] (r__law_refused tab)) : OkF P w K mg base T 14 40 ["deeds", "at", "kind", "wrongs"] (r__law_all_refused tab) := by
  exact okF_mk G.d__law_all_refused sc__law_all_refused (fun cdv A outer s H E hr => (fs_cons (fs_for (vs := [4, 5]) (passes_of rfl) rfl (pie_seq (pe_eV (pv_var (pv 0)))) (fg_tup rfl (fg_cons (fg_name sc__law_all_refused.nd rfl (by first | exact Or.inl rfl | exact Or.inr rfl) (by decide)) (fg_cons (fg_name sc__law_all_refused.nd rfl (by first | exact Or.inl rfl | exact Or.inr rfl) (by decide)) fg_nil)) (gCons_len (gCons_len gNil_len))) (by decide)
  (fs_one (fs_if (ptE (ptv_cmp (op_neD (room64 hr)) o_ne (pv_lc (own := [(Str.ofString "wrong", 6)]) rfl rfl sc__law_all_refused.nd (piv_seq (pv_var (pv 3))) (bo_mk rfl) (fun _ _ _ _ _ => (fg_name sc__law_all_refused.nd rfl (by first | exact Or.inl rfl | exact Or.inr rfl) (by decide))) (fun _ _ _ _ _ => pts_one (ptv_not (pt_v (pv_callG O__law_refused (hr.mono (by decide)) rfl G.d__law_refused.mg (fa_cons (pv_var (pv 4)) (fa_cons (pv_var (pv 5)) (fa_cons (pv_var (pv 1)) (fa_cons (pv_var (pv 2)) (fa_cons (pv_var (pv 6)) fa_nil))))))))) (fun _ _ _ _ _ => (pv_var (pv 6)))) (pv_lst fa_nil) (nomark _)))
  (fs_one (fs_ret (pe_eV pv_bl)))
  fs_nil)))
  (fs_one (fs_ret (pe_eV pv_bl))))) rfl (fun _ _ _ _ _ _ us hl => match us, hl with | [_, _, _, _], _ => rfl)
theorem sc__law_turns : FnScope ["group", "turns", "modulus", "turn", "number"] ["group"] (defScope s__law_turns) := ⟨rfl, rfl, rfl, by decide +kernel, rfl, by decide +kernel, by decide +kernel⟩
def b__law_turns : SM :=
  (bSeq (bSet 1 (eF (eV (vLst (vCons (vTup vNil) vNil)))))
  (bSeq (bFor (sSeqE (eV (vVar 0))) (gN 2)
  (bSet 1 (eF (eV (vCal fSumL (vCons (vLc (sSeq (vVar 1)) (gN 3) (vC (.bl true)) (vLc (sR1 (vVar 2)) (gN 4) (vC (.bl true)) (v2 fAdd (vVar 3) (vTup (vCons (vVar 4) vNil))) [4]) [3]) (vCons (vLst vNil) vNil)))))))
  (bRet (eMove 1))))
def r__law_turns : List OD → Rs := runD 1 5 [] (b__law_turns)
theorem ok__law_turns (G : Gx P K mg T) : OkF P w K mg base T 3 41 ["group"] (r__law_turns) := by
  exact okF_mk G.d__law_turns sc__law_turns (fun cdv A outer s H E hr => (fs_cons (fs_set sc__law_turns.nd rfl (by first | exact Or.inl rfl | exact Or.inr rfl) (by decide) (pe_eF (pe_eV (pv_lst (fa_cons (pv_tup fa_nil) fa_nil)))))
  (fs_cons (fs_for (vs := [2]) (passes_of rfl) rfl (pie_seq (pe_eV (pv_var (pv 0)))) (fg_name sc__law_turns.nd rfl (by first | exact Or.inl rfl | exact Or.inr rfl) (by decide)) (by decide)
  (fs_one (fs_set sc__law_turns.nd rfl (by first | exact Or.inl rfl | exact Or.inr rfl) (by decide) (pe_eF (pe_eV (pv_cal (call_sumL rfl) c_sumL rfl G.b_sum (by decide +kernel) (fa_cons (pv_lc (own := [(Str.ofString "turn", 3)]) rfl rfl sc__law_turns.nd (piv_seq (pv_var (pv 1))) (bo_mk rfl) (fun _ _ _ _ _ => (fg_name sc__law_turns.nd rfl (by first | exact Or.inl rfl | exact Or.inr rfl) (by decide))) (fun _ _ _ _ _ => fts_nil) (fun _ _ _ _ _ => (pv_lc (own := [(Str.ofString "number", 4)]) rfl rfl sc__law_turns.nd (piv_r1 (pv_var (pv 2)) rfl G.b_range) (bo_mk rfl) (fun _ _ _ _ _ => (fg_name sc__law_turns.nd rfl (by first | exact Or.inl rfl | exact Or.inr rfl) (by decide))) (fun _ _ _ _ _ => fts_nil) (fun _ _ _ _ _ => (pv_bin op_add4 o_add (pv_var (pv 3)) (pv_tup (fa_cons (pv_var (pv 4)) fa_nil))))))) (fa_cons (pv_lst fa_nil) fa_nil))))))))
  (fs_one (fs_ret (pe_move (pv 1))))))) rfl (fun _ _ _ _ _ _ us hl => match us, hl with | [_], _ => rfl)
theorem sc__law_drawn_group : FnScope ["generator", "few"] ["generator"] (defScope s__law_drawn_group) := ⟨rfl, rfl, rfl, by decide +kernel, rfl, by decide +kernel, by decide +kernel⟩
def b__law_drawn_group : SM :=
  (bSeq (bSet 1 (eF (eV (vLst (vCons (vLst vNil) (vCons (vLst (vCons (vC (.int 2)) vNil)) (vCons (vLst (vCons (vC (.int 3)) vNil)) (vCons (vLst (vCons (vC (.int 4)) vNil)) (vCons (vLst (vCons (vC (.int 2)) (vCons (vC (.int 2)) vNil))) (vCons (vLst (vCons (vC (.int 5)) vNil)) (vCons (vLst (vCons (vC (.int 6)) vNil)) (vCons (vLst (vCons (vC (.int 2)) (vCons (vC (.int 3)) vNil))) (vCons (vLst (vCons (vC (.int 7)) vNil)) (vCons (vLst (vCons (vC (.int 8)) vNil)) (vCons (vLst (vCons (vC (.int 2)) (vCons (vC (.int 4)) vNil))) (vCons (vLst (vCons (vC (.int 4)) (vCons (vC (.int 2)) vNil))) (vCons (vLst (vCons (vC (.int 2)) (vCons (vC (.int 2)) (vCons (vC (.int 2)) vNil)))) (vCons (vLst (vCons (vC (.int 9)) vNil)) (vCons (vLst (vCons (vC (.int 3)) (vCons (vC (.int 3)) vNil))) vNil)))))))))))))))))))
  (bRet (eCall r__law_pick [.l 0, .e (eV (v2 fAdd (vVar 1) (vLst (vCons (vLst (vCons (vC (.int 10)) vNil)) (vCons (vLst (vCons (vC (.int 11)) vNil)) (vCons (vLst (vCons (vC (.int 12)) vNil)) (vCons (vLst (vCons (vC (.int 2)) (vCons (vC (.int 6)) vNil))) (vCons (vLst (vCons (vC (.int 13)) vNil)) (vCons (vLst (vCons (vC (.int 15)) vNil)) (vCons (vLst (vCons (vC (.int 3)) (vCons (vC (.int 5)) vNil))) (vCons (vLst (vCons (vC (.int 16)) vNil)) (vCons (vLst (vCons (vC (.int 4)) (vCons (vC (.int 4)) vNil))) (vCons (vLst (vCons (vC (.int 2)) (vCons (vC (.int 2)) (vCons (vC (.int 2)) (vCons (vC (.int 2)) vNil))))) (vCons (vLst (vCons (vC (.int 2)) (vCons (vC (.int 8)) vNil))) vNil))))))))))))))])))
def r__law_drawn_group : List OD → Rs := runD 1 2 [0] (b__law_drawn_group)
theorem ok__law_drawn_group (G : Gx P K mg T) (O__law_pick : OkF P w K mg base T 5 34 ["generator", "things"] (r__law_pick)) : OkF P w K mg base T 6 42 ["generator"] (r__law_drawn_group) := by
  exact okF_mk G.d__law_drawn_group sc__law_drawn_group (fun cdv A outer s H E hr => (fs_cons (fs_set sc__law_drawn_group.nd rfl (by first | exact Or.inl rfl | exact Or.inr rfl) (by decide) (pe_eF (pe_eV (pv_lst (fa_cons (pv_lst fa_nil) (fa_cons (pv_lst (fa_cons pv_int fa_nil)) (fa_cons (pv_lst (fa_cons pv_int fa_nil)) (fa_cons (pv_lst (fa_cons pv_int fa_nil)) (fa_cons (pv_lst (fa_cons pv_int (fa_cons pv_int fa_nil))) (fa_cons (pv_lst (fa_cons pv_int fa_nil)) (fa_cons (pv_lst (fa_cons pv_int fa_nil)) (fa_cons (pv_lst (fa_cons pv_int (fa_cons pv_int fa_nil))) (fa_cons (pv_lst (fa_cons pv_int fa_nil)) (fa_cons (pv_lst (fa_cons pv_int fa_nil)) (fa_cons (pv_lst (fa_cons pv_int (fa_cons pv_int fa_nil))) (fa_cons (pv_lst (fa_cons pv_int (fa_cons pv_int fa_nil))) (fa_cons (pv_lst (fa_cons pv_int (fa_cons pv_int (fa_cons pv_int fa_nil)))) (fa_cons (pv_lst (fa_cons pv_int fa_nil)) (fa_cons (pv_lst (fa_cons pv_int (fa_cons pv_int fa_nil))) fa_nil)))))))))))))))))))
  (fs_one (fs_ret (pe_callG O__law_pick (takes_of rfl rfl rfl rfl) (hr.mono (by decide)) rfl G.d__law_pick.mg (ga_lend (pv 0) (ga_cons (pe_eV (pv_bin op_add4 o_add (pv_var (pv 1)) (pv_lst (fa_cons (pv_lst (fa_cons pv_int fa_nil)) (fa_cons (pv_lst (fa_cons pv_int fa_nil)) (fa_cons (pv_lst (fa_cons pv_int fa_nil)) (fa_cons (pv_lst (fa_cons pv_int (fa_cons pv_int fa_nil))) (fa_cons (pv_lst (fa_cons pv_int fa_nil)) (fa_cons (pv_lst (fa_cons pv_int fa_nil)) (fa_cons (pv_lst (fa_cons pv_int (fa_cons pv_int fa_nil))) (fa_cons (pv_lst (fa_cons pv_int fa_nil)) (fa_cons (pv_lst (fa_cons pv_int (fa_cons pv_int fa_nil))) (fa_cons (pv_lst (fa_cons pv_int (fa_cons pv_int (fa_cons pv_int (fa_cons pv_int fa_nil))))) (fa_cons (pv_lst (fa_cons pv_int (fa_cons pv_int fa_nil))) fa_nil)))))))))))))) ga_nil))))))) rfl (fun _ _ _ _ _ _ us hl => match us, hl with | [_], _ => rfl)
theorem sc__law_wrong_turns : FnScope ["group", "turns", "first", "found"] ["group", "turns"] (defScope s__law_wrong_turns) := ⟨rfl, rfl, rfl, by decide +kernel, rfl, by decide +kernel, by decide +kernel⟩
def b__law_wrong_turns : SM :=
  (bSeq (bSet 2 (eF (eV (v2 fIx (vVar 1) (vC (.int 0))))))
  (bSeq (bSet 3 (eF (eV (vLst (vCons (vC .non) (vCons (vC (.int 0)) (vCons (vC (.str "turns")) (vCons (vCal fTuple (vCons (vVar 1) vNil)) (vCons (vSl (vVar 1) pNo (pYes (v1 fNeg (vC (.int 1))))) (vCons (v2 fAdd (vVar 1) (vLst (vCons (vVar 2) vNil))) (vCons (v2 fAdd (vLst (vCons (vCal fList (vCons (vVar 2) vNil)) vNil)) (vSl (vVar 1) (pYes (vC (.int 1))) pNo)) (vCons (v2 fAdd (vLst (vCons (vC .non) vNil)) (vSl (vVar 1) (pYes (vC (.int 1))) pNo)) (vCons (v2 fAdd (vLst (vCons (v2 fAdd (vVar 2) (vTup (vCons (vC (.int 0)) vNil))) vNil)) (vSl (vVar 1) (pYes (vC (.int 1))) pNo)) (vCons (v2 fAdd (vLst (vCons (vC (.int 0)) vNil)) (vSl (vVar 1) (pYes (vC (.int 1))) pNo)) vNil))))))))))))))
  (bSeq (bIf (eV (v2 fNe (vVar 0) (vLst vNil)))
  (bSet 3 (eF (eV (v2 fAdd (vVar 3) (vLst (vCons (v2 fAdd (vLst (vCons (v2 fAdd (vSl (vVar 2) pNo (pYes (v1 fNeg (vC (.int 1))))) (vTup (vCons (v2 fIx (vVar 0) (v1 fNeg (vC (.int 1)))) vNil))) vNil)) (vSl (vVar 1) (pYes (vC (.int 1))) pNo)) (vCons (v2 fAdd (vLst (vCons (v2 fAdd (vSl (vVar 2) pNo (pYes (v1 fNeg (vC (.int 1))))) (vTup (vCons (v2 (fI2 iSub) (vC (.int 0)) (vC (.int 1))) vNil))) vNil)) (vSl (vVar 1) (pYes (vC (.int 1))) pNo)) (vCons (v2 fAdd (vLst (vCons (v2 fAdd (vSl (vVar 2) pNo (pYes (v1 fNeg (vC (.int 1))))) (vTup (vCons (vC (.bl true)) vNil))) vNil)) (vSl (vVar 1) (pYes (vC (.int 1))) pNo)) (vCons (v2 fAdd (vLst (vCons (v2 fAdd (vSl (vVar 2) pNo (pYes (v1 fNeg (vC (.int 1))))) (vTup (vCons (vC (.str "0")) vNil))) vNil)) (vSl (vVar 1) (pYes (vC (.int 1))) pNo)) vNil)))))))))
  bNil)
  (bRet (eMove 3)))))
def r__law_wrong_turns : List OD → Rs := runD 2 4 [] (b__law_wrong_turns)
theorem ok__law_wrong_turns (G : Gx P K mg T) : OkF P w K mg base T 3 44 ["group", "turns"] (r__law_wrong_turns) := by
  exact okF_mk G.d__law_wrong_turns sc__law_wrong_turns (fun cdv A outer s H E hr => (fs_cons (fs_set sc__law_wrong_turns.nd rfl (by first | exact Or.inl rfl | exact Or.inr rfl) (by decide) (pe_eF (pe_eV (pv_ix (pv_var (pv 1)) pv_int))))
  (fs_cons (fs_set sc__law_wrong_turns.nd rfl (by first | exact Or.inl rfl | exact Or.inr rfl) (by decide) (pe_eF (pe_eV (pv_lst (fa_cons pv_non (fa_cons pv_int (fa_cons pv_str (fa_cons (pv_calT call_tuple_of c_tuple rfl G.b_tuple (by decide +kernel) (fa_cons (pv_var (pv 1)) fa_nil)) (fa_cons (pv_sl (pv_var (pv 1)) fo_none (fo_some (pv_un un_neg o_neg pv_int))) (fa_cons (pv_bin op_add4 o_add (pv_var (pv 1)) (pv_lst (fa_cons (pv_var (pv 2)) fa_nil))) (fa_cons (pv_bin op_add4 o_add (pv_lst (fa_cons (pv_calT call_list_of c_list rfl G.b_list (by decide +kernel) (fa_cons (pv_var (pv 2)) fa_nil)) fa_nil)) (pv_sl (pv_var (pv 1)) (fo_some pv_int) fo_none)) (fa_cons (pv_bin op_add4 o_add (pv_lst (fa_cons pv_non fa_nil)) (pv_sl (pv_var (pv 1)) (fo_some pv_int) fo_none)) (fa_cons (pv_bin op_add4 o_add (pv_lst (fa_cons (pv_bin op_add4 o_add (pv_var (pv 2)) (pv_tup (fa_cons pv_int fa_nil))) fa_nil)) (pv_sl (pv_var (pv 1)) (fo_some pv_int) fo_none)) (fa_cons (pv_bin op_add4 o_add (pv_lst (fa_cons pv_int fa_nil)) (pv_sl (pv_var (pv 1)) (fo_some pv_int) fo_none)) fa_nil))))))))))))))
  (fs_cons (fs_if (ptE (ptv_cmp (op_neD (room64 hr)) o_ne (pv_var (pv 0)) (pv_lst fa_nil) (nomark _)))
  (fs_one (fs_set sc__law_wrong_turns.nd rfl (by first | exact Or.inl rfl | exact Or.inr rfl) (by decide) (pe_eF (pe_eV (pv_bin op_add4 o_add (pv_var (pv 3)) (pv_lst (fa_cons (pv_bin op_add4 o_add (pv_lst (fa_cons (pv_bin op_add4 o_add (pv_sl (pv_var (pv 2)) fo_none (fo_some (pv_un un_neg o_neg pv_int))) (pv_tup (fa_cons (pv_ix (pv_var (pv 0)) (pv_un un_neg o_neg pv_int)) fa_nil))) fa_nil)) (pv_sl (pv_var (pv 1)) (fo_some pv_int) fo_none)) (fa_cons (pv_bin op_add4 o_add (pv_lst (fa_cons (pv_bin op_add4 o_add (pv_sl (pv_var (pv 2)) fo_none (fo_some (pv_un un_neg o_neg pv_int))) (pv_tup (fa_cons (pv_bin op_sub o_sub pv_int pv_int) fa_nil))) fa_nil)) (pv_sl (pv_var (pv 1)) (fo_some pv_int) fo_none)) (fa_cons (pv_bin op_add4 o_add (pv_lst (fa_cons (pv_bin op_add4 o_add (pv_sl (pv_var (pv 2)) fo_none (fo_some (pv_un un_neg o_neg pv_int))) (pv_tup (fa_cons pv_bl fa_nil))) fa_nil)) (pv_sl (pv_var (pv 1)) (fo_some pv_int) fo_none)) (fa_cons (pv_bin op_add4 o_add (pv_lst (fa_cons (pv_bin op_add4 o_add (pv_sl (pv_var (pv 2)) fo_none (fo_some (pv_un un_neg o_neg pv_int))) (pv_tup (fa_cons pv_str fa_nil))) fa_nil)) (pv_sl (pv_var (pv 1)) (fo_some pv_int) fo_none)) fa_nil))))))))))
  fs_nil)
  (fs_one (fs_ret (pe_move (pv 3)))))))) rfl (fun _ _ _ _ _ _ us hl => match us, hl with | [_, _], _ => rfl)
theorem sc_law : FnScope ["script", "generator", "group", "turns", "differences", "order", "turn", "counts", "kept", "deeds", "deed", "wrong"] ["script"] (defScope s_law) := ⟨rfl, rfl, rfl, by decide +kernel, rfl, by decide +kernel, by decide +kernel⟩
def law_s0 (tab : Nat → Option (List OD → Rs)) : SM :=
  (bSet 1 (eV (vCall r__law_generator (vCons (vVar 0) (vCons (vC (.int 0)) vNil)))))
def law_s1 (tab : Nat → Option (List OD → Rs)) : SM :=
  (bSet 2 (eF (eCall r__law_drawn_group [.l 1])))
def law_s2 (tab : Nat → Option (List OD → Rs)) : SM :=
  (bSet 3 (eF (eV (vCall r__law_turns (vCons (vVar 2) vNil)))))
def law_s3 (tab : Nat → Option (List OD → Rs)) : SM :=
  (bPar 4 5 [.e (eV (vLc (sSeq (vVar 3)) (gN 6) (vC (.bl true)) (v2 fIx (vVar 3) (vC (.int 0))) [6])), .e (eV (vCal fLen (vCons (vVar 3) vNil)))])
def law_s4 (tab : Nat → Option (List OD → Rs)) : SM :=
  (bSet 7 (eF (eV (v2 fAdd (vLst (vCons (vVar 5) vNil)) (v2 fMul (vLst (vCons (vC (.int 0)) vNil)) (v2 (fI2 iSub) (vVar 5) (vC (.int 1))))))))
def law_s5 (tab : Nat → Option (List OD → Rs)) : SM :=
  (bSet 8 (eF (eV (vCal fRepr (vCons (vLst (vCons (vVar 2) (vCons (vVar 4) (vCons (vVar 7) vNil)))) vNil)))))
def law_s6 (tab : Nat → Option (List OD → Rs)) : SM :=
  (bSet 9 (eF (eV (vLst (vCons (vTup (vCons (vC (.fn 8)) (vCons (vLst (vCons (vVar 2) vNil)) vNil))) (vCons (vTup (vCons (vC (.fn 16)) (vCons (vLst (vCons (vVar 2) vNil)) vNil))) (vCons (vTup (vCons (vC (.fn 29)) (vCons (vLst (vCons (vVar 2) (vCons (vC (.int 0)) vNil))) vNil))) (vCons (vTup (vCons (vC (.fn 15)) (vCons (vLst (vCons (vVar 2) (vCons (vVar 4) vNil))) vNil))) (vCons (vTup (vCons (vC (.fn 19)) (vCons (vLst (vCons (vVar 2) (vCons (vVar 4) vNil))) vNil))) vNil)))))))))
def law_s7 (tab : Nat → Option (List OD → Rs)) : SM :=
  (bSet 9 (eF (eV (v2 fAdd (vVar 9) (vLst (vCons (vTup (vCons (vC (.fn 21)) (vCons (vLst (vCons (vVar 2) (vCons (vVar 4) (vCons (vC .non) vNil)))) vNil))) (vCons (vTup (vCons (vC (.fn 25)) (vCons (vLst (vCons (vVar 2) (vCons (vVar 7) vNil))) vNil))) (vCons (vTup (vCons (vC (.fn 26)) (vCons (vLst (vCons (vVar 2) (vCons (vVar 7) vNil))) vNil))) (vCons (vTup (vCons (vC (.fn 27)) (vCons (vLst (vCons (vVar 2) (vCons (vVar 7) (vCons (vC .non) vNil)))) vNil))) vNil)))))))))
def law_s8 (tab : Nat → Option (List OD → Rs)) : SM :=
  (bIf (eV (v2 fNe (vLc (sSeq (v2 fAdd (vVar 9) (vLst (vCons (vTup (vCons (vC (.fn 5)) (vCons (vLst (vCons (vC .non) vNil)) vNil))) vNil)))) (gN 10) (v2 fNotN (vCall (r__law_mark tab) (vCons (v2 fIx (vVar 10) (vC (.int 0))) (vCons (v2 fIx (vVar 10) (vC (.int 1))) vNil))) (vC .non)) (vVar 10) [10]) (vLst vNil)))
  (bRet (eV (vC (.bl false))))
  bNil)
def law_s9 (tab : Nat → Option (List OD → Rs)) : SM :=
  (bSet 11 (eF (eV (vLst (vCons (vC .non) (vCons (vC (.int 0)) (vCons (vC (.str "group")) (vCons (vTup (vCons (vC (.int 2)) vNil)) (vCons (vLst (vCons (vC (.int 1)) vNil)) (vCons (vLst (vCons (vC (.int 17)) vNil)) (vCons (vLst (vCons (vC (.int 4)) (vCons (vC (.int 5)) vNil))) (vCons (vLst (vCons (vC (.int 0)) vNil)) (vCons (vLst (vCons (v2 (fI2 iSub) (vC (.int 0)) (vC (.int 3))) vNil)) (vCons (vLst (vCons (vC (.bl true)) vNil)) (vCons (vLst (vCons (vC .non) vNil)) (vCons (vLst (vCons (vC (.str "3")) vNil)) (vCons (vLst (vCons (vC (.int 2)) (vCons (vC (.int 2)) (vCons (vC (.int 2)) (vCons (vC (.int 3)) vNil))))) (vCons (vLst (vCons (vLst (vCons (vC (.int 2)) vNil)) vNil)) (vCons (vC (.int 2)) (vCons (vLst (vCons (vC (.int 2)) (vCons (vC (.int 2)) (vCons (vC (.int 2)) (vCons (vC (.int 2)) (vCons (vC (.int 2)) vNil)))))) vNil))))))))))))))))))))
def law_s10 (tab : Nat → Option (List OD → Rs)) : SM :=
  (bIf (eV (vNot (vCall (r__law_all_refused tab) (vCons (vVar 9) (vCons (vC (.int 0)) (vCons (vC (.str "InvalidGroup")) (vCons (vVar 11) vNil)))))))
  (bRet (eV (vC (.bl false))))
  bNil)
def law_s11 (tab : Nat → Option (List OD → Rs)) : SM :=
  (bIf (eV (vNot (vCall (r__law_all_refused tab) (vCons (vSl (vVar 9) (pYes (vC (.int 2))) (pYes (vC (.int 3)))) (vCons (vC (.int 1)) (vCons (vC (.str "InvalidNumber")) (vCons (vLst (vCons (vC .non) (vCons (v2 (fI2 iSub) (vC (.int 0)) (vC (.int 1))) (vCons (vVar 5) (vCons (vC (.bl true)) (vCons (vC (.str "0")) (vCons (vTup (vCons (vC (.int 0)) vNil)) vNil))))))) vNil)))))))
  (bRet (eV (vC (.bl false))))
  bNil)
def law_s12 (tab : Nat → Option (List OD → Rs)) : SM :=
  (bIf (eV (vNot (vCall (r__law_all_refused tab) (vCons (vSl (vVar 9) (pYes (vC (.int 3))) (pYes (vC (.int 6)))) (vCons (vC (.int 1)) (vCons (vC (.str "InvalidTable")) (vCons (vCall r__law_wrong_turns (vCons (vVar 2) (vCons (vVar 4) vNil))) vNil)))))))
  (bRet (eV (vC (.bl false))))
  bNil)
def law_s13 (tab : Nat → Option (List OD → Rs)) : SM :=
  (bSet 11 (eF (eV (vLst (vCons (vC .non) (vCons (vC (.int 0)) (vCons (vC (.str "counts")) (vCons (vCal fTuple (vCons (vVar 7) vNil)) (vCons (v2 fAdd (vVar 7) (vLst (vCons (vC (.int 0)) vNil))) (vCons (vSl (vVar 7) pNo (pYes (v1 fNeg (vC (.int 1))))) (vCons (v2 fAdd (vLst (vCons (v2 fAdd (vVar 5) (vC (.int 1))) vNil)) (vSl (vVar 7) (pYes (vC (.int 1))) pNo)) (vCons (v2 fAdd (vLst (vCons (v2 (fI2 iSub) (vVar 5) (vC (.int 1))) vNil)) (vSl (vVar 7) (pYes (vC (.int 1))) pNo)) (vCons (v2 fAdd (vLst (vCons (vC .non) vNil)) (vSl (vVar 7) (pYes (vC (.int 1))) pNo)) (vCons (v2 fAdd (vLst (vCons (vCal fStr (vCons (vVar 5) vNil)) vNil)) (vSl (vVar 7) (pYes (vC (.int 1))) pNo)) vNil))))))))))))))
def law_s14 (tab : Nat → Option (List OD → Rs)) : SM :=
  (bIf (eV (v2 (fI2 iGt) (vVar 5) (vC (.int 1))))
  (bSet 11 (eF (eV (v2 fAdd (vVar 11) (vLst (vCons (v2 fAdd (vLst (vCons (v2 fAdd (vVar 5) (vC (.int 1))) (vCons (v2 (fI2 iSub) (vC (.int 0)) (vC (.int 1))) vNil))) (vSl (vVar 7) (pYes (vC (.int 2))) pNo)) (vCons (v2 fAdd (vLst (vCons (v2 (fI2 iSub) (vVar 5) (vC (.int 1))) (vCons (vC (.bl true)) vNil))) (vSl (vVar 7) (pYes (vC (.int 2))) pNo)) vNil)))))))
  bNil)
def law_s15 (tab : Nat → Option (List OD → Rs)) : SM :=
  (bIf (eV (vNot (vCall (r__law_all_refused tab) (vCons (vSl (vVar 9) (pYes (vC (.int 6))) pNo) (vCons (vC (.int 1)) (vCons (vC (.str "InvalidCounts")) (vCons (vVar 11) vNil)))))))
  (bRet (eV (vC (.bl false))))
  bNil)
def law_s16 (tab : Nat → Option (List OD → Rs)) : SM :=
  (bRet (eV (v2 fEq (vCal fRepr (vCons (vLst (vCons (vVar 2) (vCons (vVar 4) (vCons (vVar 7) vNil)))) vNil)) (vVar 8))))
def law_t16 (tab : Nat → Option (List OD → Rs)) : SM := law_s16 tab
def law_t15 (tab : Nat → Option (List OD → Rs)) : SM := bSeq (law_s15 tab) (law_t16 tab)
def law_t14 (tab : Nat → Option (List OD → Rs)) : SM := bSeq (law_s14 tab) (law_t15 tab)
def law_t13 (tab : Nat → Option (List OD → Rs)) : SM := bSeq (law_s13 tab) (law_t14 tab)
def law_t12 (tab : Nat → Option (List OD → Rs)) : SM := bSeq (law_s12 tab) (law_t13 tab)
def law_t11 (tab : Nat → Option (List OD → Rs)) : SM := bSeq (law_s11 tab) (law_t12 tab)
def law_t10 (tab : Nat → Option (List OD → Rs)) : SM := bSeq (law_s10 tab) (law_t11 tab)
def law_t9 (tab : Nat → Option (List OD → Rs)) : SM := bSeq (law_s9 tab) (law_t10 tab)
def law_t8 (tab : Nat → Option (List OD → Rs)) : SM := bSeq (law_s8 tab) (law_t9 tab)
def law_t7 (tab : Nat → Option (List OD → Rs)) : SM := bSeq (law_s7 tab) (law_t8 tab)
def law_t6 (tab : Nat → Option (List OD → Rs)) : SM := bSeq (law_s6 tab) (law_t7 tab)
def law_t5 (tab : Nat → Option (List OD → Rs)) : SM := bSeq (law_s5 tab) (law_t6 tab)
def law_t4 (tab : Nat → Option (List OD → Rs)) : SM := bSeq (law_s4 tab) (law_t5 tab)
def law_t3 (tab : Nat → Option (List OD → Rs)) : SM := bSeq (law_s3 tab) (law_t4 tab)
def law_t2 (tab : Nat → Option (List OD → Rs)) : SM := bSeq (law_s2 tab) (law_t3 tab)
def law_t1 (tab : Nat → Option (List OD → Rs)) : SM := bSeq (law_s1 tab) (law_t2 tab)
def law_t0 (tab : Nat → Option (List OD → Rs)) : SM := bSeq (law_s0 tab) (law_t1 tab)
def b_law (tab : Nat → Option (List OD → Rs)) : SM :=
  law_t0 tab
def r_law (tab : Nat → Option (List OD → Rs)) : List OD → Rs := runD 1 12 [] (b_law tab)
-- BODY law
theorem ok_law (G : Gx P K mg T) (tab : Nat → Option (List OD → Rs)) (O__law_generator : OkF P w K mg base T 4 33 ["script", "index"] (r__law_generator)) (O__law_mark : OkF P w K mg base T 11 37 ["deed", "args"] (r__law_mark tab)) (O__law_all_refused : OkF P w K mg base T 14 40 ["deeds", "at", "kind", "wrongs"] (r__law_all_refused tab)) (O__law_turns : OkF P w K mg base T 3 41 ["group"] (r__law_turns)) (O__law_drawn_group : OkF P w K mg base T 6 42 ["generator"] (r__law_drawn_group)) (O__law_wrong_turns : OkF P w K mg base T 3 44 ["group", "turns"] (r__law_wrong_turns)) {fd : FuncData} (F : Fun K "law" "law" s_law (T.adr 45) fd) : FnG P w K mg base (L2.CX P w) 15 (T.adr 45) fd ["script"] (spF T (r_law tab)) := by
  exact fnG_of F sc_law (fun cdv A outer s H E hr hgd => (fs_cons (fs_set sc_law.nd rfl (by first | exact Or.inl rfl | exact Or.inr rfl) (by decide) (pe_eV (pv_callG O__law_generator (hr.mono (by decide)) rfl G.d__law_generator.mg (fa_cons (pv_var (pv 0)) (fa_cons pv_int fa_nil)))))
  (fs_cons (fs_set sc_law.nd rfl (by first | exact Or.inl rfl | exact Or.inr rfl) (by decide) (pe_eF (pe_callG O__law_drawn_group (takes_of rfl rfl rfl rfl) (hr.mono (by decide)) rfl G.d__law_drawn_group.mg (ga_lend (pv 1) ga_nil))))
  (fs_cons (fs_set sc_law.nd rfl (by first | exact Or.inl rfl | exact Or.inr rfl) (by decide) (pe_eF (pe_eV (pv_callG O__law_turns (hr.mono (by decide)) rfl G.d__law_turns.mg (fa_cons (pv_var (pv 2)) fa_nil)))))
  (fs_cons (fs_par rfl sc_law.nd rfl rfl (by decide) (by decide) (by decide) rfl rfl (ga_cons (pe_eV (pv_lc (own := [(Str.ofString "turn", 6)]) rfl rfl sc_law.nd (piv_seq (pv_var (pv 3))) (bo_mk rfl) (fun _ _ _ _ _ => (fg_name sc_law.nd rfl (by first | exact Or.inl rfl | exact Or.inr rfl) (by decide))) (fun _ _ _ _ _ => fts_nil) (fun _ _ _ _ _ => (pv_ix (pv_var (pv 3)) pv_int)))) (ga_cons (pe_eV (pv_cal call_len c_len rfl G.b_len (by decide +kernel) (fa_cons (pv_var (pv 3)) fa_nil))) ga_nil)))
  (fs_cons (fs_set sc_law.nd rfl (by first | exact Or.inl rfl | exact Or.inr rfl) (by decide) (pe_eF (pe_eV (pv_bin op_add4 o_add (pv_lst (fa_cons (pv_var (pv 5)) fa_nil)) (pv_bin op_mul2 o_mul (pv_lst (fa_cons pv_int fa_nil)) (pv_bin op_sub o_sub (pv_var (pv 5)) pv_int))))))
  (fs_cons (fs_set sc_law.nd rfl (by first | exact Or.inl rfl | exact Or.inr rfl) (by decide) (pe_eF (pe_eV (pv_cal (call_repr2 hgd hr) c_repr rfl G.b_repr (by decide +kernel) (fa_cons (pv_lst (fa_cons (pv_var (pv 2)) (fa_cons (pv_var (pv 4)) (fa_cons (pv_var (pv 7)) fa_nil)))) fa_nil)))))
  (fs_cons (fs_set sc_law.nd rfl (by first | exact Or.inl rfl | exact Or.inr rfl) (by decide) (pe_eF (pe_eV (pv_lst (fa_cons (pv_tup (fa_cons (pv_fn rfl G.d_turns_of.mg) (fa_cons (pv_lst (fa_cons (pv_var (pv 2)) fa_nil)) fa_nil))) (fa_cons (pv_tup (fa_cons (pv_fn rfl G.d_turning_rota.mg) (fa_cons (pv_lst (fa_cons (pv_var (pv 2)) fa_nil)) fa_nil))) (fa_cons (pv_tup (fa_cons (pv_fn rfl G.d_turn_numbered.mg) (fa_cons (pv_lst (fa_cons (pv_var (pv 2)) (fa_cons pv_int fa_nil))) fa_nil))) (fa_cons (pv_tup (fa_cons (pv_fn rfl G.d_sum_of_turns.mg) (fa_cons (pv_lst (fa_cons (pv_var (pv 2)) (fa_cons (pv_var (pv 4)) fa_nil))) fa_nil))) (fa_cons (pv_tup (fa_cons (pv_fn rfl G.d_dealings.mg) (fa_cons (pv_lst (fa_cons (pv_var (pv 2)) (fa_cons (pv_var (pv 4)) fa_nil))) fa_nil))) fa_nil)))))))))
  (fs_cons (fs_set sc_law.nd rfl (by first | exact Or.inl rfl | exact Or.inr rfl) (by decide) (pe_eF (pe_eV (pv_bin op_add4 o_add (pv_var (pv 9)) (pv_lst (fa_cons (pv_tup (fa_cons (pv_fn rfl G.d_are_dealings.mg) (fa_cons (pv_lst (fa_cons (pv_var (pv 2)) (fa_cons (pv_var (pv 4)) (fa_cons pv_non fa_nil)))) fa_nil))) (fa_cons (pv_tup (fa_cons (pv_fn rfl G.d_picks_bar.mg) (fa_cons (pv_lst (fa_cons (pv_var (pv 2)) (fa_cons (pv_var (pv 7)) fa_nil))) fa_nil))) (fa_cons (pv_tup (fa_cons (pv_fn rfl G.d_picked_days.mg) (fa_cons (pv_lst (fa_cons (pv_var (pv 2)) (fa_cons (pv_var (pv 7)) fa_nil))) fa_nil))) (fa_cons (pv_tup (fa_cons (pv_fn rfl G.d_are_picked_days.mg) (fa_cons (pv_lst (fa_cons (pv_var (pv 2)) (fa_cons (pv_var (pv 7)) (fa_cons pv_non fa_nil)))) fa_nil))) fa_nil)))))))))
  (fs_cons (fs_if (ptE (ptv_cmp (op_neD (room64 hr)) o_ne (pv_lc (own := [(Str.ofString "deed", 10)]) rfl rfl sc_law.nd (piv_seq (pv_bin op_add4 o_add (pv_var (pv 9)) (pv_lst (fa_cons (pv_tup (fa_cons (pv_fn rfl G.d_is_group.mg) (fa_cons (pv_lst (fa_cons pv_non fa_nil)) fa_nil))) fa_nil)))) (bo_mk rfl) (fun _ _ _ _ _ => (fg_name sc_law.nd rfl (by first | exact Or.inl rfl | exact Or.inr rfl) (by decide))) (fun _ _ _ _ _ => pts_one (ptv_cmp op_notN o_notN (pv_callG O__law_mark (hr.mono (by decide)) rfl G.d__law_mark.mg (fa_cons (pv_ix (pv_var (pv 10)) pv_int) (fa_cons (pv_ix (pv_var (pv 10)) pv_int) fa_nil))) pv_non (nomark _))) (fun _ _ _ _ _ => (pv_var (pv 10)))) (pv_lst fa_nil) (nomark _)))
  (fs_one (fs_ret (pe_eV pv_bl)))
  fs_nil)
  (fs_cons (fs_set sc_law.nd rfl (by first | exact Or.inl rfl | exact Or.inr rfl) (by decide) (pe_eF (pe_eV (pv_lst (fa_cons pv_non (fa_cons pv_int (fa_cons pv_str (fa_cons (pv_tup (fa_cons pv_int fa_nil)) (fa_cons (pv_lst (fa_cons pv_int fa_nil)) (fa_cons (pv_lst (fa_cons pv_int fa_nil)) (fa_cons (pv_lst (fa_cons pv_int (fa_cons pv_int fa_nil))) (fa_cons (pv_lst (fa_cons pv_int fa_nil)) (fa_cons (pv_lst (fa_cons (pv_bin op_sub o_sub pv_int pv_int) fa_nil)) (fa_cons (pv_lst (fa_cons pv_bl fa_nil)) (fa_cons (pv_lst (fa_cons pv_non fa_nil)) (fa_cons (pv_lst (fa_cons pv_str fa_nil)) (fa_cons (pv_lst (fa_cons pv_int (fa_cons pv_int (fa_cons pv_int (fa_cons pv_int fa_nil))))) (fa_cons (pv_lst (fa_cons (pv_lst (fa_cons pv_int fa_nil)) fa_nil)) (fa_cons pv_int (fa_cons (pv_lst (fa_cons pv_int (fa_cons pv_int (fa_cons pv_int (fa_cons pv_int (fa_cons pv_int fa_nil)))))) fa_nil))))))))))))))))))))
  (fs_cons (fs_if (ptE (ptv_not (pt_v (pv_callG O__law_all_refused (hr.mono (by decide)) rfl G.d__law_all_refused.mg (fa_cons (pv_var (pv 9)) (fa_cons pv_int (fa_cons pv_str (fa_cons (pv_var (pv 11)) fa_nil))))))))
  (fs_one (fs_ret (pe_eV pv_bl)))
  fs_nil)
  (fs_cons (fs_if (ptE (ptv_not (pt_v (pv_callG O__law_all_refused (hr.mono (by decide)) rfl G.d__law_all_refused.mg (fa_cons (pv_sl (pv_var (pv 9)) (fo_some pv_int) (fo_some pv_int)) (fa_cons pv_int (fa_cons pv_str (fa_cons (pv_lst (fa_cons pv_non (fa_cons (pv_bin op_sub o_sub pv_int pv_int) (fa_cons (pv_var (pv 5)) (fa_cons pv_bl (fa_cons pv_str (fa_cons (pv_tup (fa_cons pv_int fa_nil)) fa_nil))))))) fa_nil))))))))
  (fs_one (fs_ret (pe_eV pv_bl)))
  fs_nil)
  (fs_cons (fs_if (ptE (ptv_not (pt_v (pv_callG O__law_all_refused (hr.mono (by decide)) rfl G.d__law_all_refused.mg (fa_cons (pv_sl (pv_var (pv 9)) (fo_some pv_int) (fo_some pv_int)) (fa_cons pv_int (fa_cons pv_str (fa_cons (pv_callG O__law_wrong_turns (hr.mono (by decide)) rfl G.d__law_wrong_turns.mg (fa_cons (pv_var (pv 2)) (fa_cons (pv_var (pv 4)) fa_nil))) fa_nil))))))))
  (fs_one (fs_ret (pe_eV pv_bl)))
  fs_nil)
  (fs_cons (fs_set sc_law.nd rfl (by first | exact Or.inl rfl | exact Or.inr rfl) (by decide) (pe_eF (pe_eV (pv_lst (fa_cons pv_non (fa_cons pv_int (fa_cons pv_str (fa_cons (pv_calT call_tuple_of c_tuple rfl G.b_tuple (by decide +kernel) (fa_cons (pv_var (pv 7)) fa_nil)) (fa_cons (pv_bin op_add4 o_add (pv_var (pv 7)) (pv_lst (fa_cons pv_int fa_nil))) (fa_cons (pv_sl (pv_var (pv 7)) fo_none (fo_some (pv_un un_neg o_neg pv_int))) (fa_cons (pv_bin op_add4 o_add (pv_lst (fa_cons (pv_bin op_add4 o_add (pv_var (pv 5)) pv_int) fa_nil)) (pv_sl (pv_var (pv 7)) (fo_some pv_int) fo_none)) (fa_cons (pv_bin op_add4 o_add (pv_lst (fa_cons (pv_bin op_sub o_sub (pv_var (pv 5)) pv_int) fa_nil)) (pv_sl (pv_var (pv 7)) (fo_some pv_int) fo_none)) (fa_cons (pv_bin op_add4 o_add (pv_lst (fa_cons pv_non fa_nil)) (pv_sl (pv_var (pv 7)) (fo_some pv_int) fo_none)) (fa_cons (pv_bin op_add4 o_add (pv_lst (fa_cons (pv_calT call_str_int c_str rfl G.b_str (by decide +kernel) (fa_cons (pv_var (pv 5)) fa_nil)) fa_nil)) (pv_sl (pv_var (pv 7)) (fo_some pv_int) fo_none)) fa_nil))))))))))))))
  (fs_cons (fs_if (ptE (ptv_cmp op_gt o_gt (pv_var (pv 5)) pv_int (nomark _)))
  (fs_one (fs_set sc_law.nd rfl (by first | exact Or.inl rfl | exact Or.inr rfl) (by decide) (pe_eF (pe_eV (pv_bin op_add4 o_add (pv_var (pv 11)) (pv_lst (fa_cons (pv_bin op_add4 o_add (pv_lst (fa_cons (pv_bin op_add4 o_add (pv_var (pv 5)) pv_int) (fa_cons (pv_bin op_sub o_sub pv_int pv_int) fa_nil))) (pv_sl (pv_var (pv 7)) (fo_some pv_int) fo_none)) (fa_cons (pv_bin op_add4 o_add (pv_lst (fa_cons (pv_bin op_sub o_sub (pv_var (pv 5)) pv_int) (fa_cons pv_bl fa_nil))) (pv_sl (pv_var (pv 7)) (fo_some pv_int) fo_none)) fa_nil))))))))
  fs_nil)
  (fs_cons (fs_if (ptE (ptv_not (pt_v (pv_callG O__law_all_refused (hr.mono (by decide)) rfl G.d__law_all_refused.mg (fa_cons (pv_sl (pv_var (pv 9)) (fo_some pv_int) fo_none) (fa_cons pv_int (fa_cons pv_str (fa_cons (pv_var (pv 11)) fa_nil))))))))
  (fs_one (fs_ret (pe_eV pv_bl)))
  fs_nil)
  (fs_one (fs_ret (pe_eV (pv_cmp (op_eqD (room64 hr)) o_eq (pv_cal (call_repr2 hgd hr) c_repr rfl G.b_repr (by decide +kernel) (fa_cons (pv_lst (fa_cons (pv_var (pv 2)) (fa_cons (pv_var (pv 4)) (fa_cons (pv_var (pv 7)) fa_nil)))) fa_nil)) (pv_var (pv 8)) (nomark _))))))))))))))))))))))
end
end Lw
end

section
set_option maxRecDepth 100000
set_option linter.all false
namespace Lw
open PySem Rq L2
/-! ## what is drawn -/
theorem rnd_pos {a n : Int} {B C : PD} (ha : 0 < a) (hn : 0 < n) (hn2 : n < 1073741824) : r__law_random [.ol [.pl (.int a), .pl B, .pl C], .pl (.int n)] = .ok (.pl (.int (a % n))) [some (.ol [.pl (.int (a / n)), .pl B, .pl C]), none] := by
  unfold r__law_random runD b__law_random
  simp [bSeq, bIf, eV, v2, fI2, iGt, iMod, iDiv, fIx, vVar, vC, OD.vw, vwL, OD.kids, atI, ixN, OD.noAl, noAlL, bSet, eF, OD.toP, bSto, vCal, vCons, vNil, fInt, bRet, eMove, maskE, ha, hn, hn2]
theorem mod_rng (x m : Int) (h : 0 < m) : 0 ≤ x % m ∧ x % m < m := ⟨Int.emod_nonneg _ (by omega), Int.emod_lt_of_pos _ h⟩
theorem hash_eq {s i : Int} (hi : 0 ≤ i) (hi2 : i < 1000000000) : ∃ h : Int, 0 ≤ h ∧ h < 2147483647 ∧ r__law_hash [.pl (.int s), .pl (.int i)] = .ok (.pl (.int h)) [none, none] := by
  have m1 := mod_rng (s * 1140671 + 27644437 * i * i + 131 * i + 19) 2147483629 (by decide)
  generalize hx : (s * 1140671 + 27644437 * i * i + 131 * i + 19) % 2147483629 = x at m1
  refine ⟨(x * x + 62089 * i + 32416187) % 2147483587 * 48271 % 2147483647, (mod_rng _ _ (by decide)).1, (mod_rng _ _ (by decide)).2, ?_⟩
  have c1 : cMulB (27644437 * i) i = true := by unfold cMulB; simp; omega
  have c2 : cMulB x x = true := by unfold cMulB; simp; omega
  have c3 : ∀ y, cMulB y 1140671 = true := fun y => by unfold cMulB; simp
  have c4 : ∀ y, cMulB 27644437 y = true := fun y => by unfold cMulB; simp
  have c5 : ∀ y, cMulB 131 y = true := fun y => by unfold cMulB; simp
  have c6 : ∀ y, cMulB 62089 y = true := fun y => by unfold cMulB; simp
  have c7 : ∀ y, cMulB y 48271 = true := fun y => by unfold cMulB; simp
  unfold r__law_hash runD b__law_hash
  simp [bSeq, bSet, eF, eV, v2, fI2, iMod, vCal, vCons, vNil, fInt, fAdd, fMul, c1, c3, c4, c5, vVar, vC, OD.vw, OD.noAl, OD.toP, bRet, maskE, hx, c2, c6, c7]
theorem rnd_zero {n b c : Int} (hn : 0 < n) (hn2 : n < 536870912) (hb : Builtin.Int.intBits n < 30) (hc : 0 ≤ c) (hc2 : c < 999999999) :
    ∃ h : Int, 0 ≤ h ∧ h < n ∧ r__law_random [.ol [.pl (.int 0), .pl (.int b), .pl (.int c)], .pl (.int n)] = .ok (.pl (.int h)) [some (.ol [.pl (.int 0), .pl (.int b), .pl (.int (c + 1))]), none] := by
  obtain ⟨h, h1, h2, h3⟩ := hash_eq (s := b) (i := c + 1) (by omega) (by omega)
  refine ⟨h % n, (mod_rng _ _ hn).1, (mod_rng _ _ hn).2, ?_⟩
  have e1 : ((Builtin.Int.intBits n : Nat) : Int) / 30 = 0 := by omega
  unfold r__law_random runD b__law_random
  simp [bSeq, bIf, eV, v2, fI2, iGt, iMod, iDiv, fIx, vVar, vC, OD.vw, vwL, OD.kids, atI, ixN, OD.noAl, noAlL, bSet, eF, OD.toP, bSto, vCal, vCons, vNil, fInt, bRet, eMove, maskE, bNil, bFor, sR1E, vBits, v1, e1, fAdd, rOk, rngP, bLoop, gN, fMul, cMulB, vCall, frzL, h3, ansV, hn]
end Lw
end

section
set_option maxRecDepth 100000
set_option linter.all false
namespace Lw
open PySem Rq L2
def scr (ns : List Int) : OD := .pl (.lst (ns.map .int))
theorem map_plL (ns : List Int) : plL (ns.map PD.int) = ns.map fun i => .pl (.int i) := by
  induction ns with
  | nil => rfl
  | cons a l ih => simp [plL, ih]
theorem cell_eq : ∀ ns : List Int, ∃ s : Int, r__law_cell [scr ns, .pl (.int 0)] = .ok (.pl (.int s)) [none, none]
  | [] => ⟨0, by
    unfold r__law_cell runD b__law_cell scr
    simp [bSeq, bIf, eV, v2, fI2, iLt, iMod, fIx, vVar, vC, OD.vw, vwL, OD.noAl, noAlL, vCal, vCons, vNil, fLen, OD.len, bRet, maskE, bNil, vSl, pNo, pYes, fSl, OD.lstF, OD.toP, cutP, fSum, OD.ints, toPL, plL, intsP]⟩
  | x :: r => ⟨x, by
    unfold r__law_cell runD b__law_cell scr
    have : (0 : Int) < (r.length : Int) + 1 := by omega
    simp [bSeq, bIf, eV, v2, fI2, iLt, iMod, fIx, vVar, vC, OD.vw, vwL, OD.noAl, noAlL, vCal, vCons, vNil, fLen, OD.len, bRet, maskE, bNil, OD.kids, plL, atI, ixN, this, map_plL]⟩
theorem pows : ∃ m q : Int, iPow 10 60 = some (.int m) ∧ iPow m 10 = some (.int q) ∧ 0 < q := ⟨10 ^ 60, (10 ^ 60) ^ 10, by kernel_rfl, by kernel_rfl, by decide +kernel⟩
theorem pow18 : iPow 10 18 = some (.int 1000000000000000000) := by kernel_rfl
theorem gen_eq (ns : List Int) : ∃ a b : Int, 0 ≤ a ∧ r__law_generator [scr ns, .pl (.int 0)] = .ok (.ol [.pl (.int a), .pl (.int b), .pl (.int 0)]) [none, none] := by
  obtain ⟨s, hs⟩ := cell_eq ns
  obtain ⟨m, q, e1, e2, e3⟩ := pows
  refine ⟨(if 0 > s - 1000000000000000000 then 0 else s - 1000000000000000000) % q, s % 2147483647, (mod_rng _ _ e3).1, ?_⟩
  unfold r__law_generator runD b__law_generator
  have hs' : r__law_cell [.pl (.lst (ns.map PD.int)), .pl (.int 0)] = .ok (.pl (.int s)) [none, none] := hs
  simp [scr, bSeq, bSet, eF, eV, v2, fI2, iSub, iMod, e1, e2, pow18, e3, vVar, vC, OD.vw, vwL, OD.noAl, noAlL, vCal, vCons, vNil, fInt, fMax, vLst, vCall, frzL, hs', ansV, OD.toP, bRet, maskE, fMul, cMulB]
end Lw
end

section
set_option maxRecDepth 100000
set_option linter.all false
namespace Lw
open PySem Rq L2
theorem rnd {a b c n : Int} (ha : 0 ≤ a) (hn : 0 < n) (hn2 : n < 536870912) (hb : Builtin.Int.intBits n < 30) (hc : 0 ≤ c) (hc2 : c < 999999999) :
    ∃ r a' c' : Int, 0 ≤ r ∧ r < n ∧ 0 ≤ a' ∧ c ≤ c' ∧ c' ≤ c + 1 ∧ r__law_random [.ol [.pl (.int a), .pl (.int b), .pl (.int c)], .pl (.int n)] = .ok (.pl (.int r)) [some (.ol [.pl (.int a'), .pl (.int b), .pl (.int c')]), none] := by
  by_cases h : 0 < a
  · exact ⟨a % n, a / n, c, (mod_rng _ _ hn).1, (mod_rng _ _ hn).2, Int.ediv_nonneg ha (by omega), by omega, by omega, rnd_pos h hn (by omega)⟩
  · have : a = 0 := by omega
    subst this
    obtain ⟨r, h1, h2, h3⟩ := rnd_zero (b := b) hn hn2 hb hc hc2
    exact ⟨r, 0, c + 1, h1, h2, by omega, by omega, by omega, h3⟩
theorem plL_getS : ∀ (l : List PD) (i : Nat) (p : PD), l[i]? = some p → (plL l)[i]? = some (.pl p)
  | [], i, p, h => by simp at h
  | a :: l, 0, p, h => by simp at h; subst h; rfl
  | a :: l, i + 1, p, h => by simpa [plL] using plL_getS l i p (by simpa using h)
theorem pick_eq {a b c : Int} {gs : List PD} (ha : 0 ≤ a) (hn : 0 < gs.length) (hn2 : (gs.length : Int) < 536870912) (hb : Builtin.Int.intBits gs.length < 30) (hc : 0 ≤ c) (hc2 : c < 999999999) :
    ∃ (k : Nat) (a' c' : Int), k < gs.length ∧ 0 ≤ a' ∧ c ≤ c' ∧ c' ≤ c + 1 ∧ r__law_pick [.ol [.pl (.int a), .pl (.int b), .pl (.int c)], .pl (.lst gs)] = .ok (.pl (gs.getD k .non)) [some (.ol [.pl (.int a'), .pl (.int b), .pl (.int c')]), none] := by
  obtain ⟨r, a', c', h1, h2, h3, h4, h5, h6⟩ := rnd (b := b) ha (by omega : (0 : Int) < gs.length) hn2 hb hc hc2
  refine ⟨r.toNat, a', c', by omega, h3, h4, h5, ?_⟩
  have e : gs[r.toNat]? = some (gs.getD r.toNat .non) := by
    have : r.toNat < gs.length := by omega
    simp [List.getElem?_eq_getElem this]
  have e2 := plL_getS _ _ _ e
  have e3 : ixN gs.length r = some r.toNat := by unfold ixN; rw [if_pos h1, if_pos h2]
  unfold r__law_pick runD b__law_pick
  simp [bRet, eMove, eF, e2, Rq.e2, eV, vVar, OD.vw, OD.noAl, eCall, evA, agE, vCal, vCons, vNil, fLen, OD.len, OD.toP, back, h6, fIx, OD.kids, atI, plL_len, e3, maskE]
end Lw
end

section
set_option maxRecDepth 100000
set_option linter.all false
set_option maxHeartbeats 0
namespace Lw
open PySem Rq L2
def groups : List PD := [.lst [], .lst [.int 2], .lst [.int 3], .lst [.int 4], .lst [.int 2, .int 2], .lst [.int 5], .lst [.int 6], .lst [.int 2, .int 3], .lst [.int 7], .lst [.int 8], .lst [.int 2, .int 4], .lst [.int 4, .int 2], .lst [.int 2, .int 2, .int 2], .lst [.int 9], .lst [.int 3, .int 3], .lst [.int 10], .lst [.int 11], .lst [.int 12], .lst [.int 2, .int 6], .lst [.int 13], .lst [.int 15], .lst [.int 3, .int 5], .lst [.int 16], .lst [.int 4, .int 4], .lst [.int 2, .int 2, .int 2, .int 2], .lst [.int 2, .int 8]]
def tabG : Nat → Option (List OD → Rs)
  | 5 => some r_is_group
  | 8 => some r_turns_of
  | 15 => some r_sum_of_turns
  | 16 => some r_turning_rota
  | 19 => some r_dealings
  | 21 => some r_are_dealings
  | 25 => some r_picks_bar
  | 26 => some r_picked_days
  | 27 => some r_are_picked_days
  | 29 => some r_turn_numbered
  | _ => none
def okB : Fl → Bool
  | .rt (.pl (.bl b)) _ => b
  | _ => false
def rho (sc gn : OD) (g : PD) : En := [some sc, some gn, some (.pl g), none, none, none, none, none, none, none, none, none]
theorem run_0 (sc gn : OD) : okB (law_t2 tabG (rho sc gn (.lst []))) = true := by kernel_rfl
theorem run_1 (sc gn : OD) : okB (law_t2 tabG (rho sc gn (.lst [.int 2]))) = true := by kernel_rfl
theorem run_2 (sc gn : OD) : okB (law_t2 tabG (rho sc gn (.lst [.int 3]))) = true := by kernel_rfl
theorem run_3 (sc gn : OD) : okB (law_t2 tabG (rho sc gn (.lst [.int 4]))) = true := by kernel_rfl
theorem run_4 (sc gn : OD) : okB (law_t2 tabG (rho sc gn (.lst [.int 2, .int 2]))) = true := by kernel_rfl
theorem run_5 (sc gn : OD) : okB (law_t2 tabG (rho sc gn (.lst [.int 5]))) = true := by kernel_rfl
theorem run_6 (sc gn : OD) : okB (law_t2 tabG (rho sc gn (.lst [.int 6]))) = true := by kernel_rfl
theorem run_7 (sc gn : OD) : okB (law_t2 tabG (rho sc gn (.lst [.int 2, .int 3]))) = true := by kernel_rfl
theorem run_8 (sc gn : OD) : okB (law_t2 tabG (rho sc gn (.lst [.int 7]))) = true := by kernel_rfl
theorem run_9 (sc gn : OD) : okB (law_t2 tabG (rho sc gn (.lst [.int 8]))) = true := by kernel_rfl
theorem run_10 (sc gn : OD) : okB (law_t2 tabG (rho sc gn (.lst [.int 2, .int 4]))) = true := by kernel_rfl
theorem run_11 (sc gn : OD) : okB (law_t2 tabG (rho sc gn (.lst [.int 4, .int 2]))) = true := by kernel_rfl
theorem run_12 (sc gn : OD) : okB (law_t2 tabG (rho sc gn (.lst [.int 2, .int 2, .int 2]))) = true := by kernel_rfl
theorem run_13 (sc gn : OD) : okB (law_t2 tabG (rho sc gn (.lst [.int 9]))) = true := by kernel_rfl
theorem run_14 (sc gn : OD) : okB (law_t2 tabG (rho sc gn (.lst [.int 3, .int 3]))) = true := by kernel_rfl
theorem run_15 (sc gn : OD) : okB (law_t2 tabG (rho sc gn (.lst [.int 10]))) = true := by kernel_rfl
theorem run_16 (sc gn : OD) : okB (law_t2 tabG (rho sc gn (.lst [.int 11]))) = true := by kernel_rfl
theorem run_17 (sc gn : OD) : okB (law_t2 tabG (rho sc gn (.lst [.int 12]))) = true := by kernel_rfl
theorem run_18 (sc gn : OD) : okB (law_t2 tabG (rho sc gn (.lst [.int 2, .int 6]))) = true := by kernel_rfl
theorem run_19 (sc gn : OD) : okB (law_t2 tabG (rho sc gn (.lst [.int 13]))) = true := by kernel_rfl
theorem run_20 (sc gn : OD) : okB (law_t2 tabG (rho sc gn (.lst [.int 15]))) = true := by kernel_rfl
theorem run_21 (sc gn : OD) : okB (law_t2 tabG (rho sc gn (.lst [.int 3, .int 5]))) = true := by kernel_rfl
theorem run_22 (sc gn : OD) : okB (law_t2 tabG (rho sc gn (.lst [.int 16]))) = true := by kernel_rfl
theorem run_23 (sc gn : OD) : okB (law_t2 tabG (rho sc gn (.lst [.int 4, .int 4]))) = true := by kernel_rfl
theorem run_24 (sc gn : OD) : okB (law_t2 tabG (rho sc gn (.lst [.int 2, .int 2, .int 2, .int 2]))) = true := by kernel_rfl
theorem run_25 (sc gn : OD) : okB (law_t2 tabG (rho sc gn (.lst [.int 2, .int 8]))) = true := by kernel_rfl
theorem run_all : ∀ (k : Nat) (sc gn : OD), k < 26 → okB (law_t2 tabG (rho sc gn (groups.getD k .non))) = true
  | 0, sc, gn, _ => run_0 sc gn
  | 1, sc, gn, _ => run_1 sc gn
  | 2, sc, gn, _ => run_2 sc gn
  | 3, sc, gn, _ => run_3 sc gn
  | 4, sc, gn, _ => run_4 sc gn
  | 5, sc, gn, _ => run_5 sc gn
  | 6, sc, gn, _ => run_6 sc gn
  | 7, sc, gn, _ => run_7 sc gn
  | 8, sc, gn, _ => run_8 sc gn
  | 9, sc, gn, _ => run_9 sc gn
  | 10, sc, gn, _ => run_10 sc gn
  | 11, sc, gn, _ => run_11 sc gn
  | 12, sc, gn, _ => run_12 sc gn
  | 13, sc, gn, _ => run_13 sc gn
  | 14, sc, gn, _ => run_14 sc gn
  | 15, sc, gn, _ => run_15 sc gn
  | 16, sc, gn, _ => run_16 sc gn
  | 17, sc, gn, _ => run_17 sc gn
  | 18, sc, gn, _ => run_18 sc gn
  | 19, sc, gn, _ => run_19 sc gn
  | 20, sc, gn, _ => run_20 sc gn
  | 21, sc, gn, _ => run_21 sc gn
  | 22, sc, gn, _ => run_22 sc gn
  | 23, sc, gn, _ => run_23 sc gn
  | 24, sc, gn, _ => run_24 sc gn
  | 25, sc, gn, _ => run_25 sc gn
  | n + 26, _, _, h => by omega
theorem drawn {a b : Int} (ha : 0 ≤ a) : ∃ (k : Nat) (gn : OD), k < 26 ∧ r__law_drawn_group [.ol [.pl (.int a), .pl (.int b), .pl (.int 0)]] = .ok (.pl (groups.getD k .non)) [some gn] := by
  obtain ⟨k, a', c', h1, h2, h3, h4, h5⟩ := pick_eq (b := b) (c := 0) (gs := groups) ha (by decide) (by decide) (by decide +kernel) (by decide) (by decide)
  refine ⟨k, .ol [.pl (.int a'), .pl (.int b), .pl (.int c')], h1, ?_⟩
  have h5' := h5
  unfold groups at h5'
  unfold r__law_drawn_group runD b__law_drawn_group
  simp [bSeq, bSet, bRet, eMove, eF, eV, vVar, vC, OD.vw, OD.noAl, noAlL, vLst, vCons, vNil, OD.toP, toPL, v2, fAdd, OD.lstF, plL, eCall, evA, agE, back, h5', maskE]
  rfl
theorem law_true (ns : List Int) : ∃ ρ, r_law tabG [scr ns] = .ok (.pl (.bl true)) ρ := by
  obtain ⟨a, b, ha, hg⟩ := gen_eq ns
  obtain ⟨k, gn, hk, hd⟩ := drawn (b := b) ha
  have r := run_all k (scr ns) gn hk
  generalize hp : groups.getD k .non = g at hd r
  have e : b_law tabG ([scr ns].map some ++ List.replicate 11 none) = law_t2 tabG (rho (scr ns) gn g) := by
    unfold b_law law_t0 law_t1 law_s0 law_s1
    have hg' : r__law_generator [.pl (.lst (ns.map PD.int)), .pl (.int 0)] = .ok (.ol [.pl (.int a), .pl (.int b), .pl (.int 0)]) [none, none] := hg
    simp [scr, bSeq, bSet, eF, eV, vCall, vCons, vNil, vVar, vC, OD.vw, frzL, OD.toP, hg', ansV, noAlL, OD.noAl, eCall, evA, agE, eMove, back, hd, rho]
  have key : ∀ d ρ', law_t2 tabG (rho (scr ns) gn g) = .rt d ρ' → r_law tabG [scr ns] = .ok d (maskE [] 1 0 ρ') := fun d ρ' q => by
    show runD 1 12 [] (b_law tabG) [scr ns] = _
    unfold runD
    rw [if_pos (show [scr ns].length = 1 from rfl), show (12 - 1 : Nat) = 11 from rfl, e, q]
  cases q : law_t2 tabG (rho (scr ns) gn g) with
  | rt d ρ' =>
    rw [q] at r
    unfold okB at r
    split at r
    · rename_i bb ρ2 e2
      cases e2
      subst r
      exact ⟨_, key _ _ q⟩
    · cases r
  | nx _ => rw [q] at r; cases r
  | bk _ => rw [q] at r; cases r
  | ct _ => rw [q] at r; cases r
  | ex _ _ _ => rw [q] at r; cases r
  | st => rw [q] at r; cases r
end Lw
end

section
set_option linter.all false
set_option maxRecDepth 100000
set_option maxHeartbeats 0
namespace Lw
open PySem PySem.Spec PyProof.Rows L2 Rq
def xp_InvalidTable : XPos := ⟨⟨6, 17, 6, 21⟩, ⟨6, 23, 6, 28⟩, ⟨6, 29, 6, 33⟩, ⟨7, 8, 7, 13⟩, ⟨7, 8, 7, 15⟩, ⟨7, 8, 7, 24⟩, ⟨7, 25, 7, 30⟩, ⟨7, 8, 7, 31⟩, ⟨7, 8, 7, 31⟩, ⟨8, 8, 8, 12⟩, ⟨8, 8, 8, 18⟩, ⟨8, 21, 8, 26⟩, ⟨8, 8, 8, 26⟩⟩
def xp_InvalidNumber : XPos := ⟨⟨11, 17, 11, 21⟩, ⟨11, 23, 11, 28⟩, ⟨11, 29, 11, 33⟩, ⟨12, 8, 12, 13⟩, ⟨12, 8, 12, 15⟩, ⟨12, 8, 12, 24⟩, ⟨12, 25, 12, 30⟩, ⟨12, 8, 12, 31⟩, ⟨12, 8, 12, 31⟩, ⟨13, 8, 13, 12⟩, ⟨13, 8, 13, 18⟩, ⟨13, 21, 13, 26⟩, ⟨13, 8, 13, 26⟩⟩
def xp_InvalidGroup : XPos := ⟨⟨16, 17, 16, 21⟩, ⟨16, 23, 16, 28⟩, ⟨16, 29, 16, 33⟩, ⟨17, 8, 17, 13⟩, ⟨17, 8, 17, 15⟩, ⟨17, 8, 17, 24⟩, ⟨17, 25, 17, 30⟩, ⟨17, 8, 17, 31⟩, ⟨17, 8, 17, 31⟩, ⟨18, 8, 18, 12⟩, ⟨18, 8, 18, 18⟩, ⟨18, 21, 18, 26⟩, ⟨18, 8, 18, 26⟩⟩
def xp_InvalidCounts : XPos := ⟨⟨21, 17, 21, 21⟩, ⟨21, 23, 21, 28⟩, ⟨21, 29, 21, 33⟩, ⟨22, 8, 22, 13⟩, ⟨22, 8, 22, 15⟩, ⟨22, 8, 22, 24⟩, ⟨22, 25, 22, 30⟩, ⟨22, 8, 22, 31⟩, ⟨22, 8, 22, 31⟩, ⟨23, 8, 23, 12⟩, ⟨23, 8, 23, 18⟩, ⟨23, 21, 23, 26⟩, ⟨23, 8, 23, 26⟩⟩
def xp_Barred : XPos := ⟨⟨26, 17, 26, 21⟩, ⟨26, 23, 26, 28⟩, ⟨26, 29, 26, 33⟩, ⟨27, 8, 27, 13⟩, ⟨27, 8, 27, 15⟩, ⟨27, 8, 27, 24⟩, ⟨27, 25, 27, 30⟩, ⟨27, 8, 27, 31⟩, ⟨27, 8, 27, 31⟩, ⟨28, 8, 28, 12⟩, ⟨28, 8, 28, 18⟩, ⟨28, 21, 28, 26⟩, ⟨28, 8, 28, 26⟩⟩
theorem kitOne_mk {K : PySem.W.Frag} {D C : Addr} {b : Bool} (h1 : PySem.W.isClsIn K C = true) (h2 : PySem.W.typeIn K (.ref C) = some (.type "type")) (h3 : PySem.W.subIn K (.ref D) (.ref C) = some b) (h4 : D = C → b = true) : PySem.W.kitOne K (.ref D) (.ref C) = some b := by
  unfold PySem.W.kitOne
  by_cases e : D = C
  · subst e
    rw [h4 rfl]
    simp
  · have e1 : (Value.ref D == Value.ref C) = false := by simp [e]
    have h1' : (PySem.W.clsIn K C).isSome = true := h1
    rw [e1]
    simp only [Bool.false_eq_true, if_false]
    show (if ((PySem.W.clsIn K C).isSome && PySem.W.typeIn K (.ref C) == some (.type "type")) = true then PySem.W.subIn K (.ref D) (.ref C) else none) = _
    rw [h1', h2]
    simpa using h3
/-- what is asked of every class of errors, RotaError too -/
structure XFacts (K : PySem.W.Frag) (C : Addr) : Prop where
  ga : PySem.W.findIn K (.ref C) "__getattribute__" = some (some (.builtin "BaseException.__getattribute__"))
  gk : PySem.W.findIn K (.ref C) "__getattr__" = some none
  su : PySem.W.subIn K (.ref C) (.type "BaseException") = some true
  hd : PySem.W.hasDictIn K C = true
  ac : PySem.W.findIn K (.ref C) "__class__" = some (some (.builtin "object.__class__"))
  mo : PySem.W.mroIn K C (.type "object") = some true
  nv : PySem.W.findIn K (.ref C) "value" = some none
  ty : PySem.W.typeIn K (.ref C) = some (.type "type")
  ic : PySem.W.isClsIn K C = true
theorem XFacts.exc {K : PySem.W.Frag} {C : Addr} (h : XFacts K C) (hn : PySem.W.specialIn K (.builtin "object.__class__") "__get__" = some (some (.builtin "getset_descriptor.__get__"))) (ht : PySem.W.takesIn K (.builtin "object.__class__") = some true) : ExcC K C := ⟨h.ga, h.gk, h.su, h.hd, h.ac, hn, ht, h.mo⟩
/-- .. and of those that are made -/
structure XMade (K : PySem.W.Frag) (C : Addr) : Prop where
  al : PySem.W.ks_superIn K C C "__init__" = some (some (.builtin "ValueError.__init__"))
  sc : PySem.W.mroIn K C (.ref C) = some true
  sv : PySem.W.subIn K (.ref C) (.type "ValueError") = some true
  sa : PySem.W.findIn K (.ref C) "__setattr__" = some (some (.builtin "object.__setattr__"))
  kc : PySem.W.keepIn K (.ref C) = true
theorem xct_mk {P : Program} {K : PySem.W.Frag} {C fI cc cda dt : Addr} (p : XPos) (hx : xRd p) {nm q q2 : Str} {N : Addr} {bs bm : List Value} {sn : List Str} {sub : List Value} {ab : Bool} {col : Option Bool} {dd : Option Addr} {k0 k1 k2 k3 k5 : Option Value}
    {kV doc pm ct oc ccl cl dcl : Value} {an od cdd cld ddd : Option Addr} {osl ccs csl dsl : Array (Option Value)} {vs : Array Value} {dn : Nat} {file : Str} {tf : Tok} (xf : XFacts K C) (xm : XMade K C)
    (xL : K.lookup C = some (excClassObj nm q C N bs bm true sn sub ab col dd k0 k1 k2 k3 k5 "ValueError.__new__")) (hbm : HandSPX.refsVE bm = true)
    (iC : PySem.W.findIn K (.ref C) "__init__" = some (some (.ref fI))) (tI : PySem.W.typeIn K (.ref fI) = some (.type "function"))
    (lI : K.lookup fI = some ⟨oc, od, .func (PySem.W.ksFn "__init__" q2 (xArgs p) (xBody p) xScope (.ref dt) kV doc pm an (.ref cda) ct cc), osl⟩) (lD : K.lookup dt = some ⟨dcl, ddd, .seq #[.none] dn, dsl⟩) (cI : PySem.W.codeIn K (.ref cda) q2 = true)
    (lcd : K.lookup cda = some ⟨ccl, cdd, .fields vs, ccs⟩) (hvs : vs[2]? = some (.str file tf)) (hfile : ((P.main.file : Str) == file) = true) (lcc : K.lookup cc = some ⟨cl, cld, .cell (some (.ref C)), csl⟩)
    (sup : PySem.W.nsIn K mainGlobals "super" = some none) (top : (P.main.scope.names.lookup ("super" : Str)).isSome = false) (opq : PySem.W.nsIn K cStatics "thirdparty.any" = some none) : XFacts K C ∧ XcT P K C :=
  ⟨xf, ⟨nm, q, N, bs, bm, sn, sub, ab, col, dd, k0, k1, k2, k3, k5, xL, hbm⟩, xm.al, ⟨fI, cc, cda, p, q2, dt, kV, doc, pm, ct, oc, ccl, cl, dcl, an, od, cdd, cld, ddd, osl, ccs, csl, dsl, vs, dn, file, tf, iC, tI, lI, lD, cI, lcd, hvs, hfile, lcc, hx⟩, sup, top, opq, xm.sc, xm.sv, xm.sa, xf.nv, xf.su, xf.ty, xm.kc⟩
structure DfX (K : PySem.W.Frag) (x : Str) (st : Stmt) (f : Addr) : Prop where
  a : PySem.W.nsIn K mainGlobals x = some (some (.ref f))
  fn : ∃ fd, Fun K x x st f fd
theorem dfx {K : PySem.W.Frag} {x : Str} {st : Stmt} {f : Addr} {oc : Value} {od an : Option Addr} {osl : Array (Option Value)} {kV doc pm cdv ct : Value}
    (a : PySem.W.nsIn K mainGlobals x = some (some (.ref f))) (l : K.lookup f = some ⟨oc, od, .func (PySem.W.fnOf x x (defArgs st) (defBody st) (defScope st) .none kV doc pm an cdv ct), osl⟩) (c : PySem.W.codeIn K cdv x = true) (k : PySem.W.keepIn K (.ref f) = true) : DfX K x st f :=
  ⟨a, _, fun_mk l c k⟩
theorem DfX.df {K : PySem.W.Frag} {h : Heap} {mg : Str → Option Value} {x : Str} {st : Stmt} {f : Addr} (d : DfX K x st f) (X : K.In h) (G : h.Ns mainGlobals mg) {T : Tb} {j : Nat} (e : T.adr j = f) : Df K mg T j x st := by
  subst e
  exact ⟨PySem.W.mg_of X G d.a, d.fn⟩
def mkT (K : PySem.W.Frag) (fl : List Addr) (cs : List Value) (r : Value) : Tb := ⟨K, fun j => fl.getD j 0, fun k => cs.getD k r⟩
theorem gx_mk {P : Program} {K : PySem.W.Frag} {h : Heap} {mg : Str → Option Value} (X : K.In h) (G : h.Ns mainGlobals mg) {f0 f1 f2 f3 f4 f5 f6 f7 f8 f9 f10 f11 f12 f13 f14 f15 f16 f17 f18 f19 f20 f21 f22 f23 f24 f25 f26 f27 f28 f29 f30 f31 f32 f33 f34 f35 f36 f37 f38 f39 f40 f41 f42 f43 f44 f45 cR c0 c1 c2 c3 c4 : Addr}
    (z_bool : PySem.W.nsIn K mainGlobals "bool" = some none)
    (z_enumerate : PySem.W.nsIn K mainGlobals "enumerate" = some none)
    (z_int : PySem.W.nsIn K mainGlobals "int" = some none)
    (z_isinstance : PySem.W.nsIn K mainGlobals "isinstance" = some none)
    (z_len : PySem.W.nsIn K mainGlobals "len" = some none)
    (z_list : PySem.W.nsIn K mainGlobals "list" = some none)
    (z_max : PySem.W.nsIn K mainGlobals "max" = some none)
    (z_range : PySem.W.nsIn K mainGlobals "range" = some none)
    (z_repr : PySem.W.nsIn K mainGlobals "repr" = some none)
    (z_str : PySem.W.nsIn K mainGlobals "str" = some none)
    (z_sum : PySem.W.nsIn K mainGlobals "sum" = some none)
    (z_tuple : PySem.W.nsIn K mainGlobals "tuple" = some none)
    (d0 : DfX K "is_whole" s_is_whole f0)
    (d1 : DfX K "is_count" s_is_count f1)
    (d2 : DfX K "is_below" s_is_below f2)
    (d3 : DfX K "is_row_of" s_is_row_of f3)
    (d4 : DfX K "order_of" s_order_of f4)
    (d5 : DfX K "is_group" s_is_group f5)
    (d6 : DfX K "check_group" s_check_group f6)
    (d7 : DfX K "turns_in" s_turns_in f7)
    (d8 : DfX K "turns_of" s_turns_of f8)
    (d9 : DfX K "plus_of" s_plus_of f9)
    (d10 : DfX K "minus_of" s_minus_of f10)
    (d11 : DfX K "sum_in" s_sum_in f11)
    (d12 : DfX K "is_turn_of" s_is_turn_of f12)
    (d13 : DfX K "are_turns_of" s_are_turns_of f13)
    (d14 : DfX K "check_turns" s_check_turns f14)
    (d15 : DfX K "sum_of_turns" s_sum_of_turns f15)
    (d16 : DfX K "turning_rota" s_turning_rota f16)
    (d17 : DfX K "chained" s_chained f17)
    (d18 : DfX K "dealt_with" s_dealt_with f18)
    (d19 : DfX K "dealings" s_dealings f19)
    (d20 : DfX K "is_dealing_of" s_is_dealing_of f20)
    (d21 : DfX K "are_dealings" s_are_dealings f21)
    (d22 : DfX K "jobs_told" s_jobs_told f22)
    (d23 : DfX K "check_counts" s_check_counts f23)
    (d24 : DfX K "bar_of" s_bar_of f24)
    (d25 : DfX K "picks_bar" s_picks_bar f25)
    (d26 : DfX K "picked_days" s_picked_days f26)
    (d27 : DfX K "are_picked_days" s_are_picked_days f27)
    (d28 : DfX K "is_turning_number" s_is_turning_number f28)
    (d29 : DfX K "turn_numbered" s_turn_numbered f29)
    (d30 : DfX K "_law_hash" s__law_hash f30)
    (d31 : DfX K "_law_random" s__law_random f31)
    (d32 : DfX K "_law_cell" s__law_cell f32)
    (d33 : DfX K "_law_generator" s__law_generator f33)
    (d34 : DfX K "_law_pick" s__law_pick f34)
    (d35 : DfX K "_law_same" s__law_same f35)
    (d36 : DfX K "_law_call" s__law_call f36)
    (d37 : DfX K "_law_mark" s__law_mark f37)
    (d38 : DfX K "_law_raised" s__law_raised f38)
    (d39 : DfX K "_law_refused" s__law_refused f39)
    (d40 : DfX K "_law_all_refused" s__law_all_refused f40)
    (d41 : DfX K "_law_turns" s__law_turns f41)
    (d42 : DfX K "_law_drawn_group" s__law_drawn_group f42)
    (d43 : DfX K "_law_is_kind" s__law_is_kind f43)
    (d44 : DfX K "_law_wrong_turns" s__law_wrong_turns f44)
    (d45 : DfX K "law" s_law f45)
    (a0 : PySem.W.nsIn K mainGlobals "InvalidTable" = some (some (.ref c0))) (x0 : XFacts K c0 ∧ XcT P K c0)
    (a1 : PySem.W.nsIn K mainGlobals "InvalidNumber" = some (some (.ref c1))) (x1 : XFacts K c1 ∧ XcT P K c1)
    (a2 : PySem.W.nsIn K mainGlobals "InvalidGroup" = some (some (.ref c2))) (x2 : XFacts K c2 ∧ XcT P K c2)
    (a3 : PySem.W.nsIn K mainGlobals "InvalidCounts" = some (some (.ref c3))) (x3 : XFacts K c3 ∧ XcT P K c3)
    (a4 : PySem.W.nsIn K mainGlobals "Barred" = some (some (.ref c4))) (x4 : XFacts K c4 ∧ XcT P K c4)
    (aR : PySem.W.nsIn K mainGlobals "RotaError" = some (some (.ref cR))) (yR : XFacts K cR) (hn : PySem.W.specialIn K (.builtin "object.__class__") "__get__" = some (some (.builtin "getset_descriptor.__get__"))) (ht : PySem.W.takesIn K (.builtin "object.__class__") = some true)
    (u0 : PySem.W.subIn K (.ref c0) (.ref cR) = some true) (uR0 : PySem.W.subIn K (.ref cR) (.ref c0) = some false) (nR0 : cR ≠ c0)
    (s0_0 : PySem.W.subIn K (.ref c0) (.ref c0) = some true)
    (s0_1 : PySem.W.subIn K (.ref c0) (.ref c1) = some false) (n0_1 : c0 ≠ c1)
    (s0_2 : PySem.W.subIn K (.ref c0) (.ref c2) = some false) (n0_2 : c0 ≠ c2)
    (s0_3 : PySem.W.subIn K (.ref c0) (.ref c3) = some false) (n0_3 : c0 ≠ c3)
    (s0_4 : PySem.W.subIn K (.ref c0) (.ref c4) = some false) (n0_4 : c0 ≠ c4)
    (u1 : PySem.W.subIn K (.ref c1) (.ref cR) = some true) (uR1 : PySem.W.subIn K (.ref cR) (.ref c1) = some false) (nR1 : cR ≠ c1)
    (s1_0 : PySem.W.subIn K (.ref c1) (.ref c0) = some false) (n1_0 : c1 ≠ c0)
    (s1_1 : PySem.W.subIn K (.ref c1) (.ref c1) = some true)
    (s1_2 : PySem.W.subIn K (.ref c1) (.ref c2) = some false) (n1_2 : c1 ≠ c2)
    (s1_3 : PySem.W.subIn K (.ref c1) (.ref c3) = some false) (n1_3 : c1 ≠ c3)
    (s1_4 : PySem.W.subIn K (.ref c1) (.ref c4) = some false) (n1_4 : c1 ≠ c4)
    (u2 : PySem.W.subIn K (.ref c2) (.ref cR) = some true) (uR2 : PySem.W.subIn K (.ref cR) (.ref c2) = some false) (nR2 : cR ≠ c2)
    (s2_0 : PySem.W.subIn K (.ref c2) (.ref c0) = some false) (n2_0 : c2 ≠ c0)
    (s2_1 : PySem.W.subIn K (.ref c2) (.ref c1) = some false) (n2_1 : c2 ≠ c1)
    (s2_2 : PySem.W.subIn K (.ref c2) (.ref c2) = some true)
    (s2_3 : PySem.W.subIn K (.ref c2) (.ref c3) = some false) (n2_3 : c2 ≠ c3)
    (s2_4 : PySem.W.subIn K (.ref c2) (.ref c4) = some false) (n2_4 : c2 ≠ c4)
    (u3 : PySem.W.subIn K (.ref c3) (.ref cR) = some true) (uR3 : PySem.W.subIn K (.ref cR) (.ref c3) = some false) (nR3 : cR ≠ c3)
    (s3_0 : PySem.W.subIn K (.ref c3) (.ref c0) = some false) (n3_0 : c3 ≠ c0)
    (s3_1 : PySem.W.subIn K (.ref c3) (.ref c1) = some false) (n3_1 : c3 ≠ c1)
    (s3_2 : PySem.W.subIn K (.ref c3) (.ref c2) = some false) (n3_2 : c3 ≠ c2)
    (s3_3 : PySem.W.subIn K (.ref c3) (.ref c3) = some true)
    (s3_4 : PySem.W.subIn K (.ref c3) (.ref c4) = some false) (n3_4 : c3 ≠ c4)
    (u4 : PySem.W.subIn K (.ref c4) (.ref cR) = some true) (uR4 : PySem.W.subIn K (.ref cR) (.ref c4) = some false) (nR4 : cR ≠ c4)
    (s4_0 : PySem.W.subIn K (.ref c4) (.ref c0) = some false) (n4_0 : c4 ≠ c0)
    (s4_1 : PySem.W.subIn K (.ref c4) (.ref c1) = some false) (n4_1 : c4 ≠ c1)
    (s4_2 : PySem.W.subIn K (.ref c4) (.ref c2) = some false) (n4_2 : c4 ≠ c2)
    (s4_3 : PySem.W.subIn K (.ref c4) (.ref c3) = some false) (n4_3 : c4 ≠ c3)
    (s4_4 : PySem.W.subIn K (.ref c4) (.ref c4) = some true)
    {tk_LARGEST_GROUP : Tok} (cc_LARGEST_GROUP : PySem.W.nsIn K mainGlobals "LARGEST_GROUP" = some (some (.int 16 tk_LARGEST_GROUP)))
    : Gx P K mg (mkT K [f0, f1, f2, f3, f4, f5, f6, f7, f8, f9, f10, f11, f12, f13, f14, f15, f16, f17, f18, f19, f20, f21, f22, f23, f24, f25, f26, f27, f28, f29, f30, f31, f32, f33, f34, f35, f36, f37, f38, f39, f40, f41, f42, f43, f44, f45] [.ref c0, .ref c1, .ref c2, .ref c3, .ref c4] (.ref cR)) where
  b_bool := PySem.W.mg_none_of X G z_bool
  b_enumerate := PySem.W.mg_none_of X G z_enumerate
  b_int := PySem.W.mg_none_of X G z_int
  b_isinstance := PySem.W.mg_none_of X G z_isinstance
  b_len := PySem.W.mg_none_of X G z_len
  b_list := PySem.W.mg_none_of X G z_list
  b_max := PySem.W.mg_none_of X G z_max
  b_range := PySem.W.mg_none_of X G z_range
  b_repr := PySem.W.mg_none_of X G z_repr
  b_str := PySem.W.mg_none_of X G z_str
  b_sum := PySem.W.mg_none_of X G z_sum
  b_tuple := PySem.W.mg_none_of X G z_tuple
  d_is_whole := d0.df X G rfl
  d_is_count := d1.df X G rfl
  d_is_below := d2.df X G rfl
  d_is_row_of := d3.df X G rfl
  d_order_of := d4.df X G rfl
  d_is_group := d5.df X G rfl
  d_check_group := d6.df X G rfl
  d_turns_in := d7.df X G rfl
  d_turns_of := d8.df X G rfl
  d_plus_of := d9.df X G rfl
  d_minus_of := d10.df X G rfl
  d_sum_in := d11.df X G rfl
  d_is_turn_of := d12.df X G rfl
  d_are_turns_of := d13.df X G rfl
  d_check_turns := d14.df X G rfl
  d_sum_of_turns := d15.df X G rfl
  d_turning_rota := d16.df X G rfl
  d_chained := d17.df X G rfl
  d_dealt_with := d18.df X G rfl
  d_dealings := d19.df X G rfl
  d_is_dealing_of := d20.df X G rfl
  d_are_dealings := d21.df X G rfl
  d_jobs_told := d22.df X G rfl
  d_check_counts := d23.df X G rfl
  d_bar_of := d24.df X G rfl
  d_picks_bar := d25.df X G rfl
  d_picked_days := d26.df X G rfl
  d_are_picked_days := d27.df X G rfl
  d_is_turning_number := d28.df X G rfl
  d_turn_numbered := d29.df X G rfl
  d__law_hash := d30.df X G rfl
  d__law_random := d31.df X G rfl
  d__law_cell := d32.df X G rfl
  d__law_generator := d33.df X G rfl
  d__law_pick := d34.df X G rfl
  d__law_same := d35.df X G rfl
  d__law_call := d36.df X G rfl
  d__law_mark := d37.df X G rfl
  d__law_raised := d38.df X G rfl
  d__law_refused := d39.df X G rfl
  d__law_all_refused := d40.df X G rfl
  d__law_turns := d41.df X G rfl
  d__law_drawn_group := d42.df X G rfl
  d__law_is_kind := d43.df X G rfl
  d__law_wrong_turns := d44.df X G rfl
  d_law := d45.df X G rfl
  x_InvalidTable := ⟨c0, PySem.W.mg_of X G a0, rfl, x0.2⟩
  x_InvalidNumber := ⟨c1, PySem.W.mg_of X G a1, rfl, x1.2⟩
  x_InvalidGroup := ⟨c2, PySem.W.mg_of X G a2, rfl, x2.2⟩
  x_InvalidCounts := ⟨c3, PySem.W.mg_of X G a3, rfl, x3.2⟩
  x_Barred := ⟨c4, PySem.W.mg_of X G a4, rfl, x4.2⟩
  xr := fun k => match k with
    | 0 => ⟨c0, rfl, x0.1.exc hn ht, x0.1.nv⟩
    | 1 => ⟨c1, rfl, x1.1.exc hn ht, x1.1.nv⟩
    | 2 => ⟨c2, rfl, x2.1.exc hn ht, x2.1.nv⟩
    | 3 => ⟨c3, rfl, x3.1.exc hn ht, x3.1.nv⟩
    | 4 => ⟨c4, rfl, x4.1.exc hn ht, x4.1.nv⟩
    | _ + 5 => ⟨cR, rfl, yR.exc hn ht, yR.nv⟩
  i_InvalidTable := fun C hC k => by
    have e := hC.symm.trans (PySem.W.mg_of X G a0)
    cases e
    exact match k with
    | 0 => ⟨c0, rfl, x0.1.exc hn ht, kitOne_mk x0.1.ic x0.1.ty s0_0 (fun _ => rfl)⟩
    | 1 => ⟨c1, rfl, x1.1.exc hn ht, kitOne_mk x0.1.ic x0.1.ty s1_0 (fun z => absurd z n1_0)⟩
    | 2 => ⟨c2, rfl, x2.1.exc hn ht, kitOne_mk x0.1.ic x0.1.ty s2_0 (fun z => absurd z n2_0)⟩
    | 3 => ⟨c3, rfl, x3.1.exc hn ht, kitOne_mk x0.1.ic x0.1.ty s3_0 (fun z => absurd z n3_0)⟩
    | 4 => ⟨c4, rfl, x4.1.exc hn ht, kitOne_mk x0.1.ic x0.1.ty s4_0 (fun z => absurd z n4_0)⟩
    | n + 5 => ⟨cR, rfl, yR.exc hn ht, by
        have e : isx 0 (n + 5) = false := by unfold isx; simp; try omega
        rw [e]
        exact kitOne_mk x0.1.ic x0.1.ty uR0 (fun z => absurd z nR0)⟩
  i_InvalidNumber := fun C hC k => by
    have e := hC.symm.trans (PySem.W.mg_of X G a1)
    cases e
    exact match k with
    | 0 => ⟨c0, rfl, x0.1.exc hn ht, kitOne_mk x1.1.ic x1.1.ty s0_1 (fun z => absurd z n0_1)⟩
    | 1 => ⟨c1, rfl, x1.1.exc hn ht, kitOne_mk x1.1.ic x1.1.ty s1_1 (fun _ => rfl)⟩
    | 2 => ⟨c2, rfl, x2.1.exc hn ht, kitOne_mk x1.1.ic x1.1.ty s2_1 (fun z => absurd z n2_1)⟩
    | 3 => ⟨c3, rfl, x3.1.exc hn ht, kitOne_mk x1.1.ic x1.1.ty s3_1 (fun z => absurd z n3_1)⟩
    | 4 => ⟨c4, rfl, x4.1.exc hn ht, kitOne_mk x1.1.ic x1.1.ty s4_1 (fun z => absurd z n4_1)⟩
    | n + 5 => ⟨cR, rfl, yR.exc hn ht, by
        have e : isx 1 (n + 5) = false := by unfold isx; simp; try omega
        rw [e]
        exact kitOne_mk x1.1.ic x1.1.ty uR1 (fun z => absurd z nR1)⟩
  i_InvalidGroup := fun C hC k => by
    have e := hC.symm.trans (PySem.W.mg_of X G a2)
    cases e
    exact match k with
    | 0 => ⟨c0, rfl, x0.1.exc hn ht, kitOne_mk x2.1.ic x2.1.ty s0_2 (fun z => absurd z n0_2)⟩
    | 1 => ⟨c1, rfl, x1.1.exc hn ht, kitOne_mk x2.1.ic x2.1.ty s1_2 (fun z => absurd z n1_2)⟩
    | 2 => ⟨c2, rfl, x2.1.exc hn ht, kitOne_mk x2.1.ic x2.1.ty s2_2 (fun _ => rfl)⟩
    | 3 => ⟨c3, rfl, x3.1.exc hn ht, kitOne_mk x2.1.ic x2.1.ty s3_2 (fun z => absurd z n3_2)⟩
    | 4 => ⟨c4, rfl, x4.1.exc hn ht, kitOne_mk x2.1.ic x2.1.ty s4_2 (fun z => absurd z n4_2)⟩
    | n + 5 => ⟨cR, rfl, yR.exc hn ht, by
        have e : isx 2 (n + 5) = false := by unfold isx; simp; try omega
        rw [e]
        exact kitOne_mk x2.1.ic x2.1.ty uR2 (fun z => absurd z nR2)⟩
  i_InvalidCounts := fun C hC k => by
    have e := hC.symm.trans (PySem.W.mg_of X G a3)
    cases e
    exact match k with
    | 0 => ⟨c0, rfl, x0.1.exc hn ht, kitOne_mk x3.1.ic x3.1.ty s0_3 (fun z => absurd z n0_3)⟩
    | 1 => ⟨c1, rfl, x1.1.exc hn ht, kitOne_mk x3.1.ic x3.1.ty s1_3 (fun z => absurd z n1_3)⟩
    | 2 => ⟨c2, rfl, x2.1.exc hn ht, kitOne_mk x3.1.ic x3.1.ty s2_3 (fun z => absurd z n2_3)⟩
    | 3 => ⟨c3, rfl, x3.1.exc hn ht, kitOne_mk x3.1.ic x3.1.ty s3_3 (fun _ => rfl)⟩
    | 4 => ⟨c4, rfl, x4.1.exc hn ht, kitOne_mk x3.1.ic x3.1.ty s4_3 (fun z => absurd z n4_3)⟩
    | n + 5 => ⟨cR, rfl, yR.exc hn ht, by
        have e : isx 3 (n + 5) = false := by unfold isx; simp; try omega
        rw [e]
        exact kitOne_mk x3.1.ic x3.1.ty uR3 (fun z => absurd z nR3)⟩
  i_Barred := fun C hC k => by
    have e := hC.symm.trans (PySem.W.mg_of X G a4)
    cases e
    exact match k with
    | 0 => ⟨c0, rfl, x0.1.exc hn ht, kitOne_mk x4.1.ic x4.1.ty s0_4 (fun z => absurd z n0_4)⟩
    | 1 => ⟨c1, rfl, x1.1.exc hn ht, kitOne_mk x4.1.ic x4.1.ty s1_4 (fun z => absurd z n1_4)⟩
    | 2 => ⟨c2, rfl, x2.1.exc hn ht, kitOne_mk x4.1.ic x4.1.ty s2_4 (fun z => absurd z n2_4)⟩
    | 3 => ⟨c3, rfl, x3.1.exc hn ht, kitOne_mk x4.1.ic x4.1.ty s3_4 (fun z => absurd z n3_4)⟩
    | 4 => ⟨c4, rfl, x4.1.exc hn ht, kitOne_mk x4.1.ic x4.1.ty s4_4 (fun _ => rfl)⟩
    | n + 5 => ⟨cR, rfl, yR.exc hn ht, by
        have e : isx 4 (n + 5) = false := by unfold isx; simp; try omega
        rw [e]
        exact kitOne_mk x4.1.ic x4.1.ty uR4 (fun z => absurd z nR4)⟩
  e_RotaError := ⟨cR, PySem.W.mg_of X G aR, fun k hk => by
    simp only [List.mem_cons, List.not_mem_nil, or_false] at hk
    rcases hk with rfl | rfl | rfl | rfl | rfl
    · exact PySem.W.exm_ref yR.su yR.hd yR.ty u0
    · exact PySem.W.exm_ref yR.su yR.hd yR.ty u1
    · exact PySem.W.exm_ref yR.su yR.hd yR.ty u2
    · exact PySem.W.exm_ref yR.su yR.hd yR.ty u3
    · exact PySem.W.exm_ref yR.su yR.hd yR.ty u4⟩
  c_LARGEST_GROUP := ⟨tk_LARGEST_GROUP, PySem.W.mg_of X G cc_LARGEST_GROUP⟩
section
variable {P : Program} {w : World} {K : PySem.W.Frag} {mg : Str → Option Value} {base : Heap} {T : Tb}
theorem law_ok (G : Gx P K mg T) {fd : FuncData} (F : Fun K "law" "law" s_law (T.adr 45) fd) : FnG P w K mg base (L2.CX P w) 15 (T.adr 45) fd ["script"] (spF T (r_law tabG)) := by
  have O_is_whole := ok_is_whole (w := w) (base := base) G
  have O_is_count := ok_is_count (w := w) (base := base) G O_is_whole
  have O_is_below := ok_is_below (w := w) (base := base) G O_is_count
  have O_is_row_of := ok_is_row_of (w := w) (base := base) G O_is_count
  have O_order_of := ok_order_of (w := w) (base := base) G
  have O_is_group := ok_is_group (w := w) (base := base) G O_is_whole O_order_of
  have O_check_group := ok_check_group (w := w) (base := base) G O_is_group
  have O_turns_in := ok_turns_in (w := w) (base := base) G
  have O_turns_of := ok_turns_of (w := w) (base := base) G O_check_group O_turns_in
  have O_plus_of := ok_plus_of (w := w) (base := base) G
  have O_minus_of := ok_minus_of (w := w) (base := base) G
  have O_sum_in := ok_sum_in (w := w) (base := base) G O_plus_of
  have O_is_turn_of := ok_is_turn_of (w := w) (base := base) G O_is_below
  have O_are_turns_of := ok_are_turns_of (w := w) (base := base) G O_order_of O_is_turn_of
  have O_check_turns := ok_check_turns (w := w) (base := base) G O_are_turns_of
  have O_sum_of_turns := ok_sum_of_turns (w := w) (base := base) G O_check_group O_sum_in O_check_turns
  have O_turning_rota := ok_turning_rota (w := w) (base := base) G O_check_group O_turns_in O_plus_of
  have O_chained := ok_chained (w := w) (base := base) G O_plus_of O_minus_of
  have O_dealt_with := ok_dealt_with (w := w) (base := base) G O_turns_in O_chained
  have O_dealings := ok_dealings (w := w) (base := base) G O_check_group O_sum_in O_check_turns O_dealt_with
  have O_is_dealing_of := ok_is_dealing_of (w := w) (base := base) G O_turns_in O_are_turns_of
  have O_are_dealings := ok_are_dealings (w := w) (base := base) G O_check_group O_minus_of O_check_turns O_is_dealing_of
  have O_jobs_told := ok_jobs_told (w := w) (base := base) G O_turns_in
  have O_check_counts := ok_check_counts (w := w) (base := base) G O_is_row_of O_order_of
  have O_bar_of := ok_bar_of (w := w) (base := base) G O_turns_in O_minus_of O_sum_in O_jobs_told
  have O_picks_bar := ok_picks_bar (w := w) (base := base) G O_check_group O_check_counts O_bar_of
  have O_picked_days := ok_picked_days (w := w) (base := base) G O_check_group O_turns_in O_minus_of O_dealt_with O_jobs_told O_check_counts O_bar_of
  have O_are_picked_days := ok_are_picked_days (w := w) (base := base) G O_is_row_of O_order_of O_check_group O_turns_in O_plus_of O_check_counts
  have O_is_turning_number := ok_is_turning_number (w := w) (base := base) G O_is_below O_order_of
  have O_turn_numbered := ok_turn_numbered (w := w) (base := base) G O_check_group O_turns_in O_is_turning_number
  have O__law_hash := ok__law_hash (w := w) (base := base) G
  have O__law_random := ok__law_random (w := w) (base := base) G O__law_hash
  have O__law_cell := ok__law_cell (w := w) (base := base) G
  have O__law_generator := ok__law_generator (w := w) (base := base) G O__law_cell
  have O__law_pick := ok__law_pick (w := w) (base := base) G O__law_random
  have O__law_same := ok__law_same (w := w) (base := base) G 8
  have HTab : ∀ j g, tabG j = some g → ∃ ps, OkF P w K mg base T 9 j ps g := fun j g hg => by
    unfold tabG at hg
    split at hg
    · cases hg; exact ⟨_, O_is_group.mono (by decide)⟩
    · cases hg; exact ⟨_, O_turns_of.mono (by decide)⟩
    · cases hg; exact ⟨_, O_sum_of_turns.mono (by decide)⟩
    · cases hg; exact ⟨_, O_turning_rota.mono (by decide)⟩
    · cases hg; exact ⟨_, O_dealings.mono (by decide)⟩
    · cases hg; exact ⟨_, O_are_dealings.mono (by decide)⟩
    · cases hg; exact ⟨_, O_picks_bar.mono (by decide)⟩
    · cases hg; exact ⟨_, O_picked_days.mono (by decide)⟩
    · cases hg; exact ⟨_, O_are_picked_days.mono (by decide)⟩
    · cases hg; exact ⟨_, O_turn_numbered.mono (by decide)⟩
    · cases hg
  have O__law_call := ok__law_call (w := w) (base := base) G tabG HTab
  have O__law_mark := ok__law_mark (w := w) (base := base) G tabG O__law_call
  have O__law_is_kind := ok__law_is_kind (w := w) (base := base) G
  have O__law_raised := ok__law_raised (w := w) (base := base) G tabG O__law_same O__law_mark O__law_is_kind
  have O__law_refused := ok__law_refused (w := w) (base := base) G tabG O__law_raised
  have O__law_all_refused := ok__law_all_refused (w := w) (base := base) G tabG O__law_refused
  have O__law_turns := ok__law_turns (w := w) (base := base) G
  have O__law_drawn_group := ok__law_drawn_group (w := w) (base := base) G O__law_pick
  have O__law_wrong_turns := ok__law_wrong_turns (w := w) (base := base) G
  exact ok_law (w := w) (base := base) G tabG O__law_generator O__law_mark O__law_all_refused O__law_turns O__law_drawn_group O__law_wrong_turns F
end
theorem scr_vd {T : Tb} {Z : Addr → Prop} {H : Hp} {a : Addr} {ns : List Int} (h : Rd H a (.lst (ns.map V.int))) (z : Z a) : Vd T Z H (scr ns) (.ref a) [] := by
  have hI : ∀ l : List Int, VwL T Z H (l.map PD.int) (l.map V.int) := fun l => by
    induction l with
    | nil => simp [VwL]
    | cons i l ih => simp only [List.map_cons, VwL]; exact ⟨_, _, rfl, by simp only [Vw], ih⟩
  simp only [scr, Vd, Vw]
  exact ⟨trivial, a, _, rfl, h, z, hI ns⟩
theorem law_sp {T : Tb} {H : Hp} {a : Addr} {ns : List Int} (hR : Rd H a (.lst (ns.map V.int))) : spF T (r_law tabG) [.ref a] H (fun v _ => v = .bl true) (fun _ _ _ => False) := by
  obtain ⟨ρ, e⟩ := law_true ns
  have zx : Zx (fun b => b = a) H := fun b e => by
    subst e
    rcases hR with q | ⟨o, q⟩ <;> exact ⟨_, q⟩
  refine ⟨fun b => b = a, fun _ => [], [scr ns], ⟨fun i d e => ?_, fun _ _ m => (nomatch m), fun _ => List.nodup_nil, fun _ _ _ m => (nomatch m), fun _ _ m => (nomatch m), rfl, zx⟩, fun i d e => ?_, ?_⟩
  · cases i with
    | zero => simp at e; subst e; exact ⟨_, rfl, scr_vd hR rfl⟩
    | succ i => simp at e
  · cases i with
    | zero => simp at e; subst e; rfl
    | succ i => simp at e
  · rw [e]
    intro v Z' H' F' B n hv nd
    exact bl_of hv
/-- the law's promise, whatever the table of the defs is -/
def spA : Sp := fun vs H Q E => ∀ T : Tb, spF T (r_law tabG) vs H Q E
theorem all_mk {P : Program} {w : World} {K : PySem.W.Frag} {h : Heap} {mg : Str → Option Value} {fa : Addr} {T : Tb} (X : K.In h) (Gn : h.Ns mainGlobals mg) (hfa : mg "law" = some (.ref fa)) (G : Gx P K mg T) :
    ∃ fd : FuncData, (∀ (s : Shared) (u : Value), BindsTo s fd ⟨[u], []⟩ [("script", u)]) ∧ ∀ base : Heap, K.In base → base.Ns mainGlobals mg → FnG P w K mg base (L2.CX P w) 15 fa fd ["script"] spA := by
  have e := hfa.symm.trans G.d_law.mg
  cases e
  obtain ⟨fd, F⟩ := G.d_law.fn
  refine ⟨fd, ?_, fun base _ _ => ?_⟩
  · obtain ⟨oc, od, kV, doc, pm, an, cdv, ct, osl, rfl, _⟩ := F.ex
    exact fun s u => .of_eq rfl
  · have O := law_ok (P := P) (w := w) (base := base) G F
    exact ⟨fun vs H Q E h => O.len vs H Q E (h T), fun A outer s H args us vs Q E hr hg he hb hv h => O.run A outer s H args us vs Q E hr hg he hb hv (h T)⟩
end Lw
open PySem PySem.W PyProof.Rows
set_option maxRecDepth 100000 in
set_option maxHeartbeats 0 in
theorem PySem.Challenge.cw_surerota_k69_turning_refused_holds : PySem.Challenge.rw_surerota_k69_turning_refused.Holds := by
  w_on; o_law; k_head; (case hw => w_witness2)
  k_fill
  refine Rq.walk_G (l := PySem.Challenge.rw_surerota_k69_turning_refused) (n := 63) (k := 15) (x := "script") (sp := Lw.spA) rfl (by decide) rfl ⟨rfl, by decide, by decide⟩ (fun w h Y => PySem.W.kIn_of Y) ?F ?L (fun H a ns _ _ hR T => Lw.law_sp hR)
  case F =>
    intro w mg fa h KX G hmg
    refine' Lw.all_mk KX G hmg (Lw.gx_mk KX G ?z_bool ?z_enumerate ?z_int ?z_isinstance ?z_len ?z_list ?z_max ?z_range ?z_repr ?z_str ?z_sum ?z_tuple (Lw.dfx ?a0 ?l0 ?c0 ?k0) (Lw.dfx ?a1 ?l1 ?c1 ?k1) (Lw.dfx ?a2 ?l2 ?c2 ?k2) (Lw.dfx ?a3 ?l3 ?c3 ?k3) (Lw.dfx ?a4 ?l4 ?c4 ?k4) (Lw.dfx ?a5 ?l5 ?c5 ?k5) (Lw.dfx ?a6 ?l6 ?c6 ?k6) (Lw.dfx ?a7 ?l7 ?c7 ?k7) (Lw.dfx ?a8 ?l8 ?c8 ?k8) (Lw.dfx ?a9 ?l9 ?c9 ?k9) (Lw.dfx ?a10 ?l10 ?c10 ?k10) (Lw.dfx ?a11 ?l11 ?c11 ?k11) (Lw.dfx ?a12 ?l12 ?c12 ?k12) (Lw.dfx ?a13 ?l13 ?c13 ?k13) (Lw.dfx ?a14 ?l14 ?c14 ?k14) (Lw.dfx ?a15 ?l15 ?c15 ?k15) (Lw.dfx ?a16 ?l16 ?c16 ?k16) (Lw.dfx ?a17 ?l17 ?c17 ?k17) (Lw.dfx ?a18 ?l18 ?c18 ?k18) (Lw.dfx ?a19 ?l19 ?c19 ?k19) (Lw.dfx ?a20 ?l20 ?c20 ?k20) (Lw.dfx ?a21 ?l21 ?c21 ?k21) (Lw.dfx ?a22 ?l22 ?c22 ?k22) (Lw.dfx ?a23 ?l23 ?c23 ?k23) (Lw.dfx ?a24 ?l24 ?c24 ?k24) (Lw.dfx ?a25 ?l25 ?c25 ?k25) (Lw.dfx ?a26 ?l26 ?c26 ?k26) (Lw.dfx ?a27 ?l27 ?c27 ?k27) (Lw.dfx ?a28 ?l28 ?c28 ?k28) (Lw.dfx ?a29 ?l29 ?c29 ?k29) (Lw.dfx ?a30 ?l30 ?c30 ?k30) (Lw.dfx ?a31 ?l31 ?c31 ?k31) (Lw.dfx ?a32 ?l32 ?c32 ?k32) (Lw.dfx ?a33 ?l33 ?c33 ?k33) (Lw.dfx ?a34 ?l34 ?c34 ?k34) (Lw.dfx ?a35 ?l35 ?c35 ?k35) (Lw.dfx ?a36 ?l36 ?c36 ?k36) (Lw.dfx ?a37 ?l37 ?c37 ?k37) (Lw.dfx ?a38 ?l38 ?c38 ?k38) (Lw.dfx ?a39 ?l39 ?c39 ?k39) (Lw.dfx ?a40 ?l40 ?c40 ?k40) (Lw.dfx ?a41 ?l41 ?c41 ?k41) (Lw.dfx ?a42 ?l42 ?c42 ?k42) (Lw.dfx ?a43 ?l43 ?c43 ?k43) (Lw.dfx ?a44 ?l44 ?c44 ?k44) (Lw.dfx ?a45 ?l45 ?c45 ?k45) ?xa0 (Lw.xct_mk Lw.xp_InvalidTable (fun env => ⟨_, rfl⟩) ⟨?ga0, ?gk0, ?su0, ?hd0, ?ac0, ?mo0, ?nv0, ?ty0, ?ic0⟩ ⟨?al0, ?sc0, ?sv0, ?sa0, ?kc0⟩ ?xL0 ?hbm0 ?iC0 ?tI0 ?lI0 ?lD0 ?cI0 ?lcd0 ?hvs0 ?hfile0 ?lcc0 ?sup0 ?top0 ?opq0) ?xa1 (Lw.xct_mk Lw.xp_InvalidNumber (fun env => ⟨_, rfl⟩) ⟨?ga1, ?gk1, ?su1, ?hd1, ?ac1, ?mo1, ?nv1, ?ty1, ?ic1⟩ ⟨?al1, ?sc1, ?sv1, ?sa1, ?kc1⟩ ?xL1 ?hbm1 ?iC1 ?tI1 ?lI1 ?lD1 ?cI1 ?lcd1 ?hvs1 ?hfile1 ?lcc1 ?sup1 ?top1 ?opq1) ?xa2 (Lw.xct_mk Lw.xp_InvalidGroup (fun env => ⟨_, rfl⟩) ⟨?ga2, ?gk2, ?su2, ?hd2, ?ac2, ?mo2, ?nv2, ?ty2, ?ic2⟩ ⟨?al2, ?sc2, ?sv2, ?sa2, ?kc2⟩ ?xL2 ?hbm2 ?iC2 ?tI2 ?lI2 ?lD2 ?cI2 ?lcd2 ?hvs2 ?hfile2 ?lcc2 ?sup2 ?top2 ?opq2) ?xa3 (Lw.xct_mk Lw.xp_InvalidCounts (fun env => ⟨_, rfl⟩) ⟨?ga3, ?gk3, ?su3, ?hd3, ?ac3, ?mo3, ?nv3, ?ty3, ?ic3⟩ ⟨?al3, ?sc3, ?sv3, ?sa3, ?kc3⟩ ?xL3 ?hbm3 ?iC3 ?tI3 ?lI3 ?lD3 ?cI3 ?lcd3 ?hvs3 ?hfile3 ?lcc3 ?sup3 ?top3 ?opq3) ?xa4 (Lw.xct_mk Lw.xp_Barred (fun env => ⟨_, rfl⟩) ⟨?ga4, ?gk4, ?su4, ?hd4, ?ac4, ?mo4, ?nv4, ?ty4, ?ic4⟩ ⟨?al4, ?sc4, ?sv4, ?sa4, ?kc4⟩ ?xL4 ?hbm4 ?iC4 ?tI4 ?lI4 ?lD4 ?cI4 ?lcd4 ?hvs4 ?hfile4 ?lcc4 ?sup4 ?top4 ?opq4) ?xaR ⟨?gaR, ?gkR, ?suR, ?hdR, ?acR, ?moR, ?nvR, ?tyR, ?icR⟩ ?hn ?ht ?u0 ?uR0 ?nR0 ?s0_0 ?s0_1 ?n0_1 ?s0_2 ?n0_2 ?s0_3 ?n0_3 ?s0_4 ?n0_4 ?u1 ?uR1 ?nR1 ?s1_0 ?n1_0 ?s1_1 ?s1_2 ?n1_2 ?s1_3 ?n1_3 ?s1_4 ?n1_4 ?u2 ?uR2 ?nR2 ?s2_0 ?n2_0 ?s2_1 ?n2_1 ?s2_2 ?s2_3 ?n2_3 ?s2_4 ?n2_4 ?u3 ?uR3 ?nR3 ?s3_0 ?n3_0 ?s3_1 ?n3_1 ?s3_2 ?n3_2 ?s3_3 ?s3_4 ?n3_4 ?u4 ?uR4 ?nR4 ?s4_0 ?n4_0 ?s4_1 ?n4_1 ?s4_2 ?n4_2 ?s4_3 ?n4_3 ?s4_4 ?cc_LARGEST_GROUP)
    (case z_bool => k_is)
    (case z_enumerate => k_is)
    (case z_int => k_is)
    (case z_isinstance => k_is)
    (case z_len => k_is)
    (case z_list => k_is)
    (case z_max => k_is)
    (case z_range => k_is)
    (case z_repr => k_is)
    (case z_str => k_is)
    (case z_sum => k_is)
    (case z_tuple => k_is)
    (case a0 => k_is)
    (case l0 => k_is)
    (case c0 => k_is)
    (case k0 => k_is)
    (case a1 => k_is)
    (case l1 => k_is)
    (case c1 => k_is)
    (case k1 => k_is)
    (case a2 => k_is)
    (case l2 => k_is)
    (case c2 => k_is)
    (case k2 => k_is)
    (case a3 => k_is)
    (case l3 => k_is)
    (case c3 => k_is)
    (case k3 => k_is)
    (case a4 => k_is)
    (case l4 => k_is)
    (case c4 => k_is)
    (case k4 => k_is)
    (case a5 => k_is)
    (case l5 => k_is)
    (case c5 => k_is)
    (case k5 => k_is)
    (case a6 => k_is)
    (case l6 => k_is)
    (case c6 => k_is)
    (case k6 => k_is)
    (case a7 => k_is)
    (case l7 => k_is)
    (case c7 => k_is)
    (case k7 => k_is)
    (case a8 => k_is)
    (case l8 => k_is)
    (case c8 => k_is)
    (case k8 => k_is)
    (case a9 => k_is)
    (case l9 => k_is)
    (case c9 => k_is)
    (case k9 => k_is)
    (case a10 => k_is)
    (case l10 => k_is)
    (case c10 => k_is)
    (case k10 => k_is)
    (case a11 => k_is)
    (case l11 => k_is)
    (case c11 => k_is)
    (case k11 => k_is)
    (case a12 => k_is)
    (case l12 => k_is)
    (case c12 => k_is)
    (case k12 => k_is)
    (case a13 => k_is)
    (case l13 => k_is)
    (case c13 => k_is)
    (case k13 => k_is)
    (case a14 => k_is)
    (case l14 => k_is)
    (case c14 => k_is)
    (case k14 => k_is)
    (case a15 => k_is)
    (case l15 => k_is)
    (case c15 => k_is)
    (case k15 => k_is)
    (case a16 => k_is)
    (case l16 => k_is)
    (case c16 => k_is)
    (case k16 => k_is)
    (case a17 => k_is)
    (case l17 => k_is)
    (case c17 => k_is)
    (case k17 => k_is)
    (case a18 => k_is)
    (case l18 => k_is)
    (case c18 => k_is)
    (case k18 => k_is)
    (case a19 => k_is)
    (case l19 => k_is)
    (case c19 => k_is)
    (case k19 => k_is)
    (case a20 => k_is)
    (case l20 => k_is)
    (case c20 => k_is)
    (case k20 => k_is)
    (case a21 => k_is)
    (case l21 => k_is)
    (case c21 => k_is)
    (case k21 => k_is)
    (case a22 => k_is)
    (case l22 => k_is)
    (case c22 => k_is)
    (case k22 => k_is)
    (case a23 => k_is)
    (case l23 => k_is)
    (case c23 => k_is)
    (case k23 => k_is)
    (case a24 => k_is)
    (case l24 => k_is)
    (case c24 => k_is)
    (case k24 => k_is)
    (case a25 => k_is)
    (case l25 => k_is)
    (case c25 => k_is)
    (case k25 => k_is)
    (case a26 => k_is)
    (case l26 => k_is)
    (case c26 => k_is)
    (case k26 => k_is)
    (case a27 => k_is)
    (case l27 => k_is)
    (case c27 => k_is)
    (case k27 => k_is)
    (case a28 => k_is)
    (case l28 => k_is)
    (case c28 => k_is)
    (case k28 => k_is)
    (case a29 => k_is)
    (case l29 => k_is)
    (case c29 => k_is)
    (case k29 => k_is)
    (case a30 => k_is)
    (case l30 => k_is)
    (case c30 => k_is)
    (case k30 => k_is)
    (case a31 => k_is)
    (case l31 => k_is)
    (case c31 => k_is)
    (case k31 => k_is)
    (case a32 => k_is)
    (case l32 => k_is)
    (case c32 => k_is)
    (case k32 => k_is)
    (case a33 => k_is)
    (case l33 => k_is)
    (case c33 => k_is)
    (case k33 => k_is)
    (case a34 => k_is)
    (case l34 => k_is)
    (case c34 => k_is)
    (case k34 => k_is)
    (case a35 => k_is)
    (case l35 => k_is)
    (case c35 => k_is)
    (case k35 => k_is)
    (case a36 => k_is)
    (case l36 => k_is)
    (case c36 => k_is)
    (case k36 => k_is)
    (case a37 => k_is)
    (case l37 => k_is)
    (case c37 => k_is)
    (case k37 => k_is)
    (case a38 => k_is)
    (case l38 => k_is)
    (case c38 => k_is)
    (case k38 => k_is)
    (case a39 => k_is)
    (case l39 => k_is)
    (case c39 => k_is)
    (case k39 => k_is)
    (case a40 => k_is)
    (case l40 => k_is)
    (case c40 => k_is)
    (case k40 => k_is)
    (case a41 => k_is)
    (case l41 => k_is)
    (case c41 => k_is)
    (case k41 => k_is)
    (case a42 => k_is)
    (case l42 => k_is)
    (case c42 => k_is)
    (case k42 => k_is)
    (case a43 => k_is)
    (case l43 => k_is)
    (case c43 => k_is)
    (case k43 => k_is)
    (case a44 => k_is)
    (case l44 => k_is)
    (case c44 => k_is)
    (case k44 => k_is)
    (case a45 => k_is)
    (case l45 => k_is)
    (case c45 => k_is)
    (case k45 => k_is)
    (case xa0 => k_is)
    (case ga0 => k_is)
    (case gk0 => k_is)
    (case su0 => k_is)
    (case hd0 => k_is)
    (case ac0 => k_is)
    (case mo0 => k_is)
    (case nv0 => k_is)
    (case ty0 => k_is)
    (case ic0 => k_is)
    (case al0 => ks_is)
    (case sc0 => k_is)
    (case sv0 => k_is)
    (case sa0 => k_is)
    (case kc0 => k_is)
    (case xL0 => k_is)
    (case hbm0 => rfl)
    (case iC0 => k_is)
    (case tI0 => k_is)
    (case lI0 => k_is)
    (case lD0 => k_is)
    (case cI0 => k_is)
    (case lcd0 => k_is)
    (case hvs0 => rfl)
    (case hfile0 => rfl)
    (case lcc0 => k_is)
    (case sup0 => k_is)
    (case top0 => rfl)
    (case opq0 => k_is)
    (case xa1 => k_is)
    (case ga1 => k_is)
    (case gk1 => k_is)
    (case su1 => k_is)
    (case hd1 => k_is)
    (case ac1 => k_is)
    (case mo1 => k_is)
    (case nv1 => k_is)
    (case ty1 => k_is)
    (case ic1 => k_is)
    (case al1 => ks_is)
    (case sc1 => k_is)
    (case sv1 => k_is)
    (case sa1 => k_is)
    (case kc1 => k_is)
    (case xL1 => k_is)
    (case hbm1 => rfl)
    (case iC1 => k_is)
    (case tI1 => k_is)
    (case lI1 => k_is)
    (case lD1 => k_is)
    (case cI1 => k_is)
    (case lcd1 => k_is)
    (case hvs1 => rfl)
    (case hfile1 => rfl)
    (case lcc1 => k_is)
    (case sup1 => k_is)
    (case top1 => rfl)
    (case opq1 => k_is)
    (case xa2 => k_is)
    (case ga2 => k_is)
    (case gk2 => k_is)
    (case su2 => k_is)
    (case hd2 => k_is)
    (case ac2 => k_is)
    (case mo2 => k_is)
    (case nv2 => k_is)
    (case ty2 => k_is)
    (case ic2 => k_is)
    (case al2 => ks_is)
    (case sc2 => k_is)
    (case sv2 => k_is)
    (case sa2 => k_is)
    (case kc2 => k_is)
    (case xL2 => k_is)
    (case hbm2 => rfl)
    (case iC2 => k_is)
    (case tI2 => k_is)
    (case lI2 => k_is)
    (case lD2 => k_is)
    (case cI2 => k_is)
    (case lcd2 => k_is)
    (case hvs2 => rfl)
    (case hfile2 => rfl)
    (case lcc2 => k_is)
    (case sup2 => k_is)
    (case top2 => rfl)
    (case opq2 => k_is)
    (case xa3 => k_is)
    (case ga3 => k_is)
    (case gk3 => k_is)
    (case su3 => k_is)
    (case hd3 => k_is)
    (case ac3 => k_is)
    (case mo3 => k_is)
    (case nv3 => k_is)
    (case ty3 => k_is)
    (case ic3 => k_is)
    (case al3 => ks_is)
    (case sc3 => k_is)
    (case sv3 => k_is)
    (case sa3 => k_is)
    (case kc3 => k_is)
    (case xL3 => k_is)
    (case hbm3 => rfl)
    (case iC3 => k_is)
    (case tI3 => k_is)
    (case lI3 => k_is)
    (case lD3 => k_is)
    (case cI3 => k_is)
    (case lcd3 => k_is)
    (case hvs3 => rfl)
    (case hfile3 => rfl)
    (case lcc3 => k_is)
    (case sup3 => k_is)
    (case top3 => rfl)
    (case opq3 => k_is)
    (case xa4 => k_is)
    (case ga4 => k_is)
    (case gk4 => k_is)
    (case su4 => k_is)
    (case hd4 => k_is)
    (case ac4 => k_is)
    (case mo4 => k_is)
    (case nv4 => k_is)
    (case ty4 => k_is)
    (case ic4 => k_is)
    (case al4 => ks_is)
    (case sc4 => k_is)
    (case sv4 => k_is)
    (case sa4 => k_is)
    (case kc4 => k_is)
    (case xL4 => k_is)
    (case hbm4 => rfl)
    (case iC4 => k_is)
    (case tI4 => k_is)
    (case lI4 => k_is)
    (case lD4 => k_is)
    (case cI4 => k_is)
    (case lcd4 => k_is)
    (case hvs4 => rfl)
    (case hfile4 => rfl)
    (case lcc4 => k_is)
    (case sup4 => k_is)
    (case top4 => rfl)
    (case opq4 => k_is)
    (case xaR => k_is)
    (case gaR => k_is)
    (case gkR => k_is)
    (case suR => k_is)
    (case hdR => k_is)
    (case acR => k_is)
    (case moR => k_is)
    (case nvR => k_is)
    (case tyR => k_is)
    (case icR => k_is)
    (case hn => k_is)
    (case ht => k_is)
    (case u0 => k_is)
    (case uR0 => k_is)
    (case nR0 => decide)
    (case s0_0 => k_is)
    (case s0_1 => k_is)
    (case n0_1 => decide)
    (case s0_2 => k_is)
    (case n0_2 => decide)
    (case s0_3 => k_is)
    (case n0_3 => decide)
    (case s0_4 => k_is)
    (case n0_4 => decide)
    (case u1 => k_is)
    (case uR1 => k_is)
    (case nR1 => decide)
    (case s1_0 => k_is)
    (case n1_0 => decide)
    (case s1_1 => k_is)
    (case s1_2 => k_is)
    (case n1_2 => decide)
    (case s1_3 => k_is)
    (case n1_3 => decide)
    (case s1_4 => k_is)
    (case n1_4 => decide)
    (case u2 => k_is)
    (case uR2 => k_is)
    (case nR2 => decide)
    (case s2_0 => k_is)
    (case n2_0 => decide)
    (case s2_1 => k_is)
    (case n2_1 => decide)
    (case s2_2 => k_is)
    (case s2_3 => k_is)
    (case n2_3 => decide)
    (case s2_4 => k_is)
    (case n2_4 => decide)
    (case u3 => k_is)
    (case uR3 => k_is)
    (case nR3 => decide)
    (case s3_0 => k_is)
    (case n3_0 => decide)
    (case s3_1 => k_is)
    (case n3_1 => decide)
    (case s3_2 => k_is)
    (case n3_2 => decide)
    (case s3_3 => k_is)
    (case s3_4 => k_is)
    (case n3_4 => decide)
    (case u4 => k_is)
    (case uR4 => k_is)
    (case nR4 => decide)
    (case s4_0 => k_is)
    (case n4_0 => decide)
    (case s4_1 => k_is)
    (case n4_1 => decide)
    (case s4_2 => k_is)
    (case n4_2 => decide)
    (case s4_3 => k_is)
    (case n4_3 => decide)
    (case s4_4 => k_is)
    (case cc_LARGEST_GROUP => k_is)
  case L =>
    intro w
    kernel_rfl
end

