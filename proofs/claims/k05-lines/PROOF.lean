import PyProof.Rows.All
import Wide.All
import OpenK.AllK
import Wide.FinOn
import HandS.ForMost
import HandS.Exc
import HandS.TryOnly
import HandS.WordsExc
import HandS.ExcOwn
import HandS.IsInst
import HandS.TupAny
import HandS.CallSlots
import HandS.Small
import HandS.Wide
import HandS.Flow
import HandS.SortInts
import PyProof.WalksMore
import PyProof.Rows.SumAny
import HandS.Walk
import HandS.Zip
import KE.GoesEnum
import HandS.Style
import HandS.WideMore
import HandS.ExcIs
import HandS.ExcField
import HandS.RaiseMore
import KE.KExcIs
import HandS.Defaults
import KE.GoesZip
import KE.GoesMore
import KE.KRevSl
import HandS.Comp
import HandS.DictComp
import HandS.More
import PyProof.Rows.StrMeet
import PyProof.Rows.SortStr
import HandS.ExcInit
import HandS.ClsMeth
import HandS.TupMul
import HandS.Replace
import PyProof.ListStr
import PyProof.Rows.StrMul
import HandS.TupLe
import KE.KIntText
import KE.IntTextLaws
import HandS.Ends
import HandS.Deep
import PyProof.StrLawsIn
import PySem.Challenge.RW_logsturn_k05_lines
set_option Elab.async false
set_option linter.all false
set_option maxRecDepth 100000
set_option maxHeartbeats 4000000
/-! The plain layer over HandS: values as trees, lists by value, readings over plain states. -/
namespace PP
open PySem PySem.Spec PyProof.Rows L2

inductive PV where
  | non | bl (b : Bool) | int (i : Int) | str (x : Str)
  | tup (xs : List PV) | lst (xs : List PV) | rdl (xs : List PV) | dK (kvs : List (Key × PV))
  | ref (a : Addr) | cst (v : V) | bad

inductive PO where
  | lst (xs : List PV) | dK (kvs : List (Key × PV)) | ins (C : Str) (fs : List (Str × PV))
def PO.fz : PO → Bool
  | .ins _ _ => false
  | _ => true
def PO.pv : PO → PV
  | .lst xs => .lst xs
  | .dK kvs => .dK kvs
  | .ins _ _ => .bad

abbrev PH := Addr → Option PO
def updP (h : PH) (a : Addr) (o : PO) : PH := fun b => if b = a then some o else h b
theorem updP_same {h : PH} {a : Addr} {o : PO} : updP h a o a = some o := by unfold updP; rw [if_pos rfl]
theorem updP_ne {h : PH} {a b : Addr} {o : PO} (e : b ≠ a) : updP h a o b = h b := by unfold updP; rw [if_neg e]
theorem updP_updP {h : PH} {a : Addr} {o u : PO} : updP (updP h a o) a u = updP h a u := by
  funext b; unfold updP; split <;> rfl
inductive SV where
  | val (p : PV) | own (o : PO)
abbrev PSt := List (Option SV)
inductive EV where
  | val (p : PV) | own (o : PO) | bor (i : Nat)

/-! ### what stands for what -/
section
variable (K : PySem.W.Frag) (H : Hp) (F : Addr → Prop)
def KT (a : Addr) (xs : List V) : Prop := ∃ (o : Obj) (its : Array Value) (n : Nat), K.lookup a = some o ∧ o.cls = .type "tuple" ∧ o.data = .seq its n ∧ its.size ≤ sizeLine ∧ Vals xs its.toList
def KL (a : Addr) (xs : List V) : Prop := ∃ (o : Obj) (its : Array Value) (n : Nat), K.lookup a = some o ∧ o.cls = .type "list" ∧ o.dict = none ∧ o.data = .seq its n ∧ its.size ≤ sizeLine ∧ Vals xs its.toList
def FzT (a : Addr) (vs : List V) : Prop := (H a = some (.tup vs) ∧ ¬ F a) ∨ KT K a vs
def FzL (a : Addr) (vs : List V) : Prop := H a = some (.lst vs) ∧ ¬ F a
def FzR (a : Addr) (vs : List V) : Prop := (∃ o, H a = some (.frz o (.lst vs)) ∧ ¬ F a) ∨ KL K a vs
def FzD (a : Addr) (us : List (Key × V)) : Prop := H a = some (.dK us) ∧ ¬ F a
mutual
inductive Rp : PV → V → Prop
  | non : Rp .non .non
  | bl (b : Bool) : Rp (.bl b) (.bl b)
  | int (i : Int) : Rp (.int i) (.int i)
  | str (x : Str) : Rp (.str x) (.str x)
  | tup {a : Addr} {xs : List PV} {vs : List V} : FzT K H F a vs → RpL xs vs → Rp (.tup xs) (.ref a)
  | lst {a : Addr} {xs : List PV} {vs : List V} : FzL H F a vs → RpL xs vs → Rp (.lst xs) (.ref a)
  | rdl {a : Addr} {xs : List PV} {vs : List V} : FzR K H F a vs → RpL xs vs → Rp (.rdl xs) (.ref a)
  | dK {a : Addr} {kvs : List (Key × PV)} {us : List (Key × V)} : FzD H F a us → kvs.map (·.1) = us.map (·.1) → RpL (kvs.map (·.2)) (us.map (·.2)) → Rp (.dK kvs) (.ref a)
  | ref (a : Addr) : Rp (.ref a) (.ref a)
  | cst (v : V) : Rp (.cst v) v
  | bad (v : V) : Rp .bad v
inductive RpL : List PV → List V → Prop
  | nil : RpL [] []
  | cons {p : PV} {v : V} {ps : List PV} {vs : List V} : Rp p v → RpL ps vs → RpL (p :: ps) (v :: vs)
end
/-- an object's content -/
def OC : PO → HO → Prop
  | .lst xs, u => ∃ vs, u = .lst vs ∧ RpL K H F xs vs
  | .dK kvs, u => ∃ us, u = .dK us ∧ kvs.map (·.1) = us.map (·.1) ∧ RpL K H F (kvs.map (·.2)) (us.map (·.2))
  | .ins C fs, u => ∃ Ca dx us, PySem.W.nsIn K mainGlobals C = some (some (.ref Ca)) ∧ u = .ins Ca dx us ∧ fs.map (·.1) = us.map (·.1) ∧ RpL K H F (fs.map (·.2)) (us.map (·.2))
def OR (a : Addr) (o : PO) : Prop := ∃ u, H a = some u ∧ OC K H F o u
/-- .. at the top, where it may change -/
def RT (p : PV) (v : V) : Prop := Rp K H F p v ∨ ∃ a u o, v = .ref a ∧ H a = some u ∧ OC K H F o u ∧ o.fz = true ∧ p = o.pv
end
/-- a list or a dict under way -/
abbrev ZO := List V ⊕ List (L2.Key × V)
def zo : ZO → HO
  | .inl xs => .lst xs
  | .inr xs => .dK xs
/-- what is ours (f: frozen values lie elsewhere); of it z: what must stand as it is; b: what stood at the def's entry -/
structure Ft where
  f : Addr → Prop
  z : Addr → Prop
  b : Addr → Prop
instance : CoeFun Ft (fun _ => Addr → Prop) := ⟨Ft.f⟩
instance : Coe Ft (Addr → Prop) := ⟨Ft.f⟩
section
variable (K : PySem.W.Frag) (H : Hp) (F : Ft)
structure Sm (σp : PSt) (h : PH) (σ : L2.St) : Prop where
  val : ∀ (i : Nat) (p : PV), σp[i]? = some (some (.val p)) → ∃ v, σ[i]? = some (some v) ∧ Rp K H F p v
  own : ∀ (i : Nat) (o : PO), σp[i]? = some (some (.own o)) → ∃ a, σ[i]? = some (some (.ref a)) ∧ OR K H F a o ∧ F a ∧ h a = none ∧ o.fz = true ∧ ¬ F.z a ∧ ¬ F.b a
  sep : ∀ (i j : Nat) (o o' : PO) (a : Addr), σp[i]? = some (some (.own o)) → σp[j]? = some (some (.own o')) → σ[i]? = some (some (.ref a)) → σ[j]? = some (some (.ref a)) → i = j
  hp : ∀ (a : Addr) (o : PO), h a = some o → OR K H F a o ∧ F a ∧ ¬ F.z a
  len : σp.length = σ.length
  fin : ∀ a, F a → ∃ u, H a = some u
  zf : ∀ a, F.z a → F a ∧ ∃ xs : ZO, H a = some (zo xs)
  bt : ∀ a, F.b a → ∃ u, H a = some u
end
def hide (H : Hp) (a : Addr) : Hp := fun b => if b = a then none else H b
theorem hide_ne {H : Hp} {a b : Addr} (e : b ≠ a) : hide H a b = H b := by unfold hide; rw [if_neg e]
theorem hide_same {H : Hp} {a : Addr} : hide H a a = none := by unfold hide; rw [if_pos rfl]
theorem hide_some {H : Hp} {a b : Addr} {o : HO} (e : hide H a b = some o) : b ≠ a ∧ H b = some o := by
  by_cases q : b = a
  · subst q; rw [hide_same] at e; cases e
  · rw [hide_ne q] at e; exact ⟨q, e⟩
/-- an expression's result -/
def RS (K : PySem.W.Frag) (H0 : Hp) (F : Ft) (σp : PSt) (h : PH) (σ : L2.St) (H : Hp) : EV → V → Prop
  | .val p, v => Sm K H F σp h σ ∧ Rp K H F p v
  | .bor i, v => Sm K H F σp h σ ∧ σ[i]? = some (some v)
  | .own o, v => ∃ a u, v = .ref a ∧ ¬ F a ∧ H a = some u ∧ OC K (hide H a) F o u ∧ Sm K (hide H a) F σp h σ ∧ o.fz = true ∧ H0 a = none
/-- from one state to a later one: what is not ours stands -/
structure Fr (F : Ft) (H : Hp) (F' : Ft) (H' : Hp) : Prop where
  zz : F'.z = F.z
  bb : F'.b = F.b
  st : ∀ a o, H a = some o → ¬ F a ∨ F.z a → H' a = some o
  nw : ∀ a, F' a → F a ∨ H a = none
  dm : ∀ a, H' a = none → H a = none
def Keep (F : Addr → Prop) (H : Hp) (F' : Addr → Prop) (H' : Hp) : Prop := ∀ a o, H a = some o → ¬ F a → H' a = some o ∧ ¬ F' a
section
variable {K : PySem.W.Frag} {H0 H H' H1 H2 : Hp} {F F' F1 F2 : Ft} {σp σp' : PSt} {h h' : PH} {σ σ' : L2.St}
theorem Fr.refl : Fr F H F H := ⟨rfl, rfl, fun _ _ e _ => e, fun _ z => .inl z, fun _ z => z⟩
theorem Fr.trans (a : Fr F H F1 H1) (b : Fr F1 H1 F2 H2) : Fr F H F2 H2 := by
  have n1 : ∀ x o, H x = some o → ¬ F x → ¬ F1 x := fun x o e n z => by
    rcases a.nw x z with z | z
    · exact n z
    · rw [e] at z; cases z
  refine ⟨b.zz.trans a.zz, b.bb.trans a.bb, fun x o e n => b.st x o (a.st x o e n) (n.imp (n1 x o e) (by rw [a.zz]; exact fun z => z)), fun x z => ?_, fun x z => a.dm x (b.dm x z)⟩
  by_cases q : F x
  · exact .inl q
  · refine .inr ?_
    cases e : H x with
    | none => rfl
    | some o =>
      rcases b.nw x z with z | z
      · exact absurd z (n1 x o e q)
      · have := a.st x o e (.inl q)
        rw [this] at z; cases z
theorem Fr.keep (a : Fr F H F1 H1) : Keep F H F1 H1 := fun x o e n => ⟨a.st x o e (.inl n), fun z => by
  rcases a.nw x z with z | z
  · exact n z
  · rw [e] at z; cases z⟩
theorem upd_none {H : Hp} {p a : Addr} {o : HO} (e : upd H p o a = none) : H a = none := by
  by_cases q : a = p
  · subst q; rw [upd_same] at e; cases e
  · rw [upd_ne q] at e; exact e
/-- a new object -/
theorem Fr.new {p : Addr} {o : HO} (n : H p = none) : Fr F H F (upd H p o) := ⟨rfl, rfl, fun x u e _ => by rw [upd_ne (ne_of_none e n)]; exact e, fun _ z => .inl z, fun _ z => upd_none z⟩
/-- an object of ours changes -/
theorem Fr.mut {p : Addr} {o : HO} (n : F p) (nz : ¬ F.z p) : Fr F H F (upd H p o) := ⟨rfl, rfl, fun x u e z => by rw [upd_ne (fun q => z.elim (fun z => z (by rw [q]; exact n)) fun z => nz (by rw [← q]; exact z))]; exact e, fun _ z => .inl z, fun _ z => upd_none z⟩
end
section
variable {K : PySem.W.Frag} {H0 H H' H1 H2 : Hp} {F F' F1 F2 : Addr → Prop} {σp σp' : PSt} {h h' : PH} {σ σ' : L2.St}
theorem Keep.new {p : Addr} {o : HO} (n : H p = none) : Keep F H F (upd H p o) := fun x u e z => ⟨by rw [upd_ne (ne_of_none e n)]; exact e, z⟩
theorem Keep.hide {a : Addr} : Keep F (hide H a) F H := fun x o e n => ⟨(hide_some e).2, n⟩
theorem Keep.hideF {a : Addr} : Keep F (PP.hide H a) (fun x => F x ∨ x = a) H := fun x o e n => ⟨(hide_some e).2, fun z => z.elim n (hide_some e).1⟩
mutual
theorem Rp.keep (k : Keep F H F' H') : ∀ {p : PV} {v : V}, Rp K H F p v → Rp K H' F' p v
  | _, _, .non => .non
  | _, _, .bl b => .bl b
  | _, _, .int b => .int b
  | _, _, .str b => .str b
  | _, _, .tup q r => .tup (q.elim (fun z => .inl (k _ _ z.1 z.2)) .inr) (RpL.keep k r)
  | _, _, .lst q r => .lst (k _ _ q.1 q.2) (RpL.keep k r)
  | _, _, .rdl q r => .rdl (q.elim (fun ⟨o, z⟩ => .inl ⟨o, k _ _ z.1 z.2⟩) .inr) (RpL.keep k r)
  | _, _, .dK q e r => .dK (k _ _ q.1 q.2) e (RpL.keep k r)
  | _, _, .ref a => .ref a
  | _, _, .cst a => .cst a
  | _, _, .bad a => .bad a
theorem RpL.keep (k : Keep F H F' H') : ∀ {p : List PV} {v : List V}, RpL K H F p v → RpL K H' F' p v
  | _, _, .nil => .nil
  | _, _, .cons a b => .cons (Rp.keep k a) (RpL.keep k b)
end
theorem OC.keep (k : Keep F H F' H') {o : PO} {u : HO} (x : OC K H F o u) : OC K H' F' o u := by
  cases o with
  | lst xs => obtain ⟨vs, e, r⟩ := x; exact ⟨vs, e, r.keep k⟩
  | dK xs => obtain ⟨vs, e, q, r⟩ := x; exact ⟨vs, e, q, r.keep k⟩
  | ins C xs => obtain ⟨ca, d, vs, m, e, q, r⟩ := x; exact ⟨ca, d, vs, m, e, q, r.keep k⟩
theorem RpL.length : ∀ {ps : List PV} {vs : List V}, RpL K H F ps vs → ps.length = vs.length
  | _, _, .nil => rfl
  | _, _, .cons _ b => by simp [RpL.length b]
theorem RpL.get : ∀ {ps : List PV} {vs : List V} {i : Nat} {p : PV}, RpL K H F ps vs → ps[i]? = some p → ∃ v, vs[i]? = some v ∧ Rp K H F p v
  | _, _, _, _, .nil, e => by simp at e
  | _, _, 0, _, .cons a _, e => by simp at e; subst e; exact ⟨_, rfl, a⟩
  | _, _, i + 1, p, .cons _ b, e => by
    obtain ⟨v, q, r⟩ := RpL.get (i := i) (p := p) b (by simpa using e)
    exact ⟨v, by simpa using q, r⟩
theorem RpL.getV : ∀ {ps : List PV} {vs : List V} {i : Nat} {v : V}, RpL K H F ps vs → vs[i]? = some v → ∃ p, ps[i]? = some p ∧ Rp K H F p v
  | _, _, _, _, .nil, e => by simp at e
  | _, _, 0, _, .cons a _, e => by simp at e; subst e; exact ⟨_, rfl, a⟩
  | _, _, i + 1, p, .cons _ b, e => by
    obtain ⟨v, q, r⟩ := RpL.getV (i := i) (v := p) b (by simpa using e)
    exact ⟨v, by simpa using q, r⟩
theorem RpL.append : ∀ {ps qs : List PV} {vs us : List V}, RpL K H F ps vs → RpL K H F qs us → RpL K H F (ps ++ qs) (vs ++ us)
  | _, _, _, _, .nil, s => s
  | _, _, _, _, .cons a b, s => .cons a (RpL.append b s)
theorem RpL.take : ∀ {ps : List PV} {vs : List V} (n : Nat), RpL K H F ps vs → RpL K H F (ps.take n) (vs.take n)
  | _, _, 0, _ => by simp; exact .nil
  | _, _, _ + 1, .nil => .nil
  | _, _, n + 1, .cons a b => .cons a (RpL.take n b)
theorem RpL.drop : ∀ {ps : List PV} {vs : List V} (n : Nat), RpL K H F ps vs → RpL K H F (ps.drop n) (vs.drop n)
  | _, _, 0, r => r
  | _, _, _ + 1, .nil => .nil
  | _, _, n + 1, .cons _ b => RpL.drop n b
theorem RpL.set {p : PV} {v : V} (r : Rp K H F p v) : ∀ {ps : List PV} {vs : List V} (n : Nat), RpL K H F ps vs → RpL K H F (ps.set n p) (vs.set n v)
  | _, _, _, .nil => .nil
  | _, _, 0, .cons _ b => .cons r b
  | _, _, n + 1, .cons a b => .cons a (RpL.set r n b)
theorem OR.keep (k : Keep F H F' H') {a : Addr} {o : PO} (e : ∀ u, H a = some u → H' a = some u) (x : OR K H F a o) : OR K H' F' a o := let ⟨u, q, r⟩ := x; ⟨u, e u q, r.keep k⟩
theorem Rp.ofPv {a : Addr} {u : HO} {o : PO} (z : o.fz = true) (e : H a = some u) (n : ¬ F a) (c : OC K H F o u) : Rp K H F o.pv (.ref a) := by
  cases o with
  | lst xs => obtain ⟨vs, rfl, r⟩ := c; exact .lst ⟨e, n⟩ r
  | dK kvs => obtain ⟨us, rfl, q, r⟩ := c; exact .dK ⟨e, n⟩ q r
  | ins _ _ => cases z
end
section
variable {K : PySem.W.Frag} {H0 H H' H1 H2 : Hp} {F F' F1 F2 : Ft} {σp σp' : PSt} {h h' : PH} {σ σ' : L2.St}
/-- the state over another heap that keeps our objects -/
theorem Sm.keep (S : Sm K H F σp h σ) (k : Keep F H F' H') (e : ∀ a u, F a → H a = some u → H' a = some u ∧ F' a) (g : ∀ a, F' a → ∃ u, H' a = some u) (zz : F'.z = F.z) (bb : F'.b = F.b) (bt : ∀ a u, F.b a → H a = some u → ∃ u', H' a = some u') : Sm K H' F' σp h σ where
  val := fun i p q => let ⟨v, a, r⟩ := S.val i p q; ⟨v, a, r.keep k⟩
  own := fun i o q => let ⟨a, b, r, f, n, z, nz, nb⟩ := S.own i o q; ⟨a, b, r.keep k (fun u w => (e a u f w).1), (let ⟨u, w, _⟩ := r; (e a u f w).2), n, z, by rw [zz]; exact nz, by rw [bb]; exact nb⟩
  sep := S.sep
  hp := fun a o q => let ⟨r, f, nz⟩ := S.hp a o q; ⟨r.keep k (fun u w => (e a u f w).1), (let ⟨u, w, _⟩ := r; (e a u f w).2), by rw [zz]; exact nz⟩
  len := S.len
  fin := g
  zf := fun a q => by
    rw [zz] at q
    obtain ⟨f, xs, w⟩ := S.zf a q
    exact ⟨(e a _ f w).2, xs, (e a _ f w).1⟩
  bt := fun a q => by
    rw [bb] at q
    obtain ⟨u, w⟩ := S.bt a q
    exact bt a u q w
theorem Sm.nf (S : Sm K H F σp h σ) {p : Addr} (n : H p = none) : ¬ F p := fun z => by
  obtain ⟨u, e⟩ := S.fin p z
  rw [n] at e; cases e
theorem Sm.new (S : Sm K H F σp h σ) {p : Addr} {o : HO} (n : H p = none) : Sm K (upd H p o) F σp h σ :=
  S.keep (.new n) (fun a u f q => ⟨by rw [upd_ne (ne_of_none q n)]; exact q, f⟩) (fun a f => by
    obtain ⟨u, e⟩ := S.fin a f
    exact ⟨u, by rw [upd_ne (ne_of_none e n)]; exact e⟩) rfl rfl fun a u _ q => ⟨u, by rw [upd_ne (ne_of_none q n)]; exact q⟩
theorem Sm.unhide {a : Addr} (S : Sm K (PP.hide H a) F σp h σ) : Sm K H F σp h σ := S.keep .hide (fun b u f q => ⟨(hide_some q).2, f⟩) (fun b f => let ⟨u, e⟩ := S.fin b f; ⟨u, (hide_some e).2⟩) rfl rfl fun b u _ q => ⟨u, (hide_some q).2⟩
theorem hide_upd {p : Addr} {o : HO} (n : H p = none) : PP.hide (upd H p o) p = H := by
  funext b
  by_cases q : b = p
  · subst q; rw [hide_same, n]
  · rw [hide_ne q, upd_ne q]
def pend : EV → EV
  | .own o => .val o.pv
  | x => x
theorem RS.sm {x : EV} {v : V} (r : RS K H0 F σp h σ H x v) : Sm K H F σp h σ := by
  cases x with
  | val p => exact r.1
  | bor i => exact r.1
  | own o => obtain ⟨a, u, _, _, _, _, s, _, _⟩ := r; exact s.unhide
theorem RS.pend {x : EV} {v : V} (r : RS K H0 F σp h σ H x v) : RS K H0 F σp h σ H (pend x) v := by
  cases x with
  | val p => exact r
  | bor i => exact r
  | own o => obtain ⟨a, u, rfl, n, e, c, s, z, _⟩ := r; exact ⟨s.unhide, .ofPv z e n (c.keep .hide)⟩
/-- a new object as a result -/
theorem RS.new {p : Addr} {o : PO} {u : HO} (S : Sm K H F σp h σ) (n : H p = none) (c : OC K H F o u) (z : o.fz = true) : RS K H F σp h σ (upd H p u) (.own o) (.ref p) :=
  ⟨p, u, rfl, S.nf n, upd_same, by rw [hide_upd n]; exact c, by rw [hide_upd n]; exact S, z, n⟩
theorem RS.early {x : EV} {v : V} (d : ∀ a, H1 a = none → H0 a = none) (r : RS K H1 F σp h σ H x v) : RS K H0 F σp h σ H x v := by
  cases x with
  | val p => exact r
  | bor i => exact r
  | own o => obtain ⟨a, u, e, n, e2, c, s, z, w⟩ := r; exact ⟨a, u, e, n, e2, c, s, z, d a w⟩
/-- what is ours is there -/
theorem Sm.there (S : Sm K H F σp h σ) {i : Nat} {p : PV} (e : σp[i]? = some (some (.val p))) : ∃ v, σ[i]? = some (some v) ∧ Rp K H F p v := S.val i p e
end
end PP
set_option Elab.async false
set_option linter.all false
set_option maxRecDepth 100000
set_option maxHeartbeats 4000000
namespace PP
open PySem PySem.Spec PyProof.Rows L2

/-! ### exceptions, contexts -/
structure PX where
  cls : Str
  fs : List (Str × PV)
def XR (K : PySem.W.Frag) (mg : Str → Option Value) (x : PX) (cls : Value) (d : Option Addr) (H : Hp) : Prop :=
  ∃ C, mg x.cls = some (.ref C) ∧ cls = .ref C ∧ ((x.fs = [] ∧ d = none) ∨ ∃ dd us, d = some dd ∧ H dd = some (.xd us) ∧ ∀ f p, x.fs.lookup f = some p → ∃ v, us.lookup f = some v ∧ Rp K (fun _ => none) (fun _ => False) p v)

structure Sc where
  P : Program
  w : World
  K : PySem.W.Frag
  mg : Str → Option Value
  base : Heap
  N : List Str
  sc : Scope
  fn : Str → Bool
  k : Nat
  calm : Bool
  top : Bool
structure At (S : Sc) (X : Cx) : Prop where
  P : X.prog = S.P
  w : X.w = S.w
  K : X.K = S.K
  mg : X.mg = S.mg
  base : X.base = S.base
  N : X.N = S.N
  sc : X.env.scope = S.sc
  nd : X.N.Nodup
  fn : ∀ x, S.fn x = true → X.fn x = true
  calm : S.calm = true → X.calm = true
  room : S.calm = true → Room S.k X.A
  units : X.A.units + 70 < cLine
  top : S.top = true → X.stack = X.env :: X.outer ∧ X.env.frame = some X.env.locals

abbrev EPost := PX → PSt → PH → Prop
abbrev WE := PSt → PH → (EV → PSt → PH → Prop) → EPost → Prop
abbrev WT := PSt → PH → (Bool → PSt → PH → Prop) → EPost → Prop
abbrev WA := PSt → PH → (List EV → PSt → PH → Prop) → EPost → Prop

section
variable (K : PySem.W.Frag) (mg : Str → Option Value) (F : Ft) (σ : L2.St) (H : Hp)
def CQ (Q : VK) : EV → PSt → PH → Prop := fun ev σp' h' => ∀ F' H' v, Fr F H F' H' → RS K H F' σp' h' σ H' ev v → Q v H'
def CT (Q : Bool → Hp → Prop) : Bool → PSt → PH → Prop := fun b σp' h' => ∀ F' H', Fr F H F' H' → Sm K H' F' σp' h' σ → Q b H'
def CE' (W : WX) : PX → PSt → PH → Prop := fun x σp' h' => ∀ F' H' cls d, Fr F H F' H' → Sm K H' F' σp' h' σ → XR K mg x cls d H' → W cls d σ H'
end
/-- a value among pending ones -/
def RE (K : PySem.W.Frag) (F : Ft) (σ : L2.St) (H : Hp) : EV → V → Prop
  | .val p, v => Rp K H F p v
  | .bor i, v => σ[i]? = some (some v)
  | .own _, _ => False
inductive REL (K : PySem.W.Frag) (F : Ft) (σ : L2.St) (H : Hp) : List EV → List V → Prop
  | nil : REL K F σ H [] []
  | cons {x : EV} {v : V} {xs : List EV} {vs : List V} : RE K F σ H x v → REL K F σ H xs vs → REL K F σ H (x :: xs) (v :: vs)
def CA (K : PySem.W.Frag) (F : Ft) (σ : L2.St) (H : Hp) (Q : List V → Hp → Prop) : List EV → PSt → PH → Prop := fun es σp' h' => ∀ F' H' vs, Fr F H F' H' → Sm K H' F' σp' h' σ → REL K F' σ H' es vs → Q vs H'
def LE (K : PySem.W.Frag) (mg : Str → Option Value) (T : WE) (W : WX) : TE := fun σ H Q => ∃ F σp h, Sm K H F σp h σ ∧ T σp h (CQ K F σ H Q) (CE' K mg F σ H W)
def LT (K : PySem.W.Frag) (mg : Str → Option Value) (T : WT) (W : WX) : TT := fun σ H Q => ∃ F σp h, Sm K H F σp h σ ∧ T σp h (CT K F σ H Q) (CE' K mg F σ H W)
def LA (K : PySem.W.Frag) (mg : Str → Option Value) (T : WA) (W : WX) : TA := fun σ H Q => ∃ F σp h, Sm K H F σp h σ ∧ T σp h (CA K F σ H Q) (CE' K mg F σ H W)
def Mono {α : Type} (T : PSt → PH → (α → PSt → PH → Prop) → EPost → Prop) : Prop :=
  ∀ σ h (Q Q' : α → PSt → PH → Prop) (E E' : EPost), (∀ x σ h, Q x σ h → Q' x σ h) → (∀ x σ h, E x σ h → E' x σ h) → T σ h Q E → T σ h Q' E'
structure JE (S : Sc) (e : Expr) (T : WE) : Prop where
  run : ∀ X W, At S X → Takes X W → PE X e (LE X.K X.mg T W)
  mono : Mono T
structure JT (S : Sc) (e : Expr) (T : WT) : Prop where
  run : ∀ X W, At S X → Takes X W → PT X e (LT X.K X.mg T W)
  mono : Mono T
structure JA (S : Sc) (es : List Expr) (T : WA) : Prop where
  run : ∀ X W, At S X → Takes X W → PA X es (LA X.K X.mg T W)
  mono : Mono T
section
variable {K : PySem.W.Frag} {mg : Str → Option Value} {F F1 : Ft} {σ : L2.St} {H H1 : Hp} {W : WX} {σp : PSt} {h : PH}
theorem CE'.step (f : Fr F H F1 H1) {x : PX} {σp : PSt} {h : PH} (q : CE' K mg F σ H W x σp h) : CE' K mg F1 σ H1 W x σp h := fun F' H' cls d g s r => q F' H' cls d (f.trans g) s r
theorem RE.keep (k : Keep F H F1 H1) {x : EV} {v : V} (r : RE K F σ H x v) : RE K F1 σ H1 x v := by
  cases x with
  | val p => exact Rp.keep k r
  | bor i => exact r
  | own o => exact r.elim
theorem REL.keep (k : Keep F H F1 H1) : ∀ {x : List EV} {v : List V}, REL K F σ H x v → REL K F1 σ H1 x v
  | _, _, .nil => .nil
  | _, _, .cons a b => .cons (a.keep k) (REL.keep k b)
theorem RS.re {H0 : Hp} {x : EV} {v : V} (r : RS K H0 F σp h σ H x v) : RE K F σ H (PP.pend x) v := by
  have q := r.pend
  cases x with
  | val p => exact q.2
  | bor i => exact q.2
  | own o => exact q.2
/-- pe with a weaker reading -/
theorem pe_weak {X : Cx} {e : Expr} {t t' : TE} (p : PE X e t) (i : ∀ σ H Q, t' σ H Q → t σ H Q) : PE X e t' := ⟨fun pins s σ H Q I q => p.run pins s σ H Q I (i σ H Q q)⟩
theorem pt_weak {X : Cx} {e : Expr} {t t' : TT} (p : PT X e t) (i : ∀ σ H Q, t' σ H Q → t σ H Q) : PT X e t' := ⟨fun pins s σ H Q I q => p.run pins s σ H Q I (i σ H Q q)⟩
theorem pa_weak {X : Cx} {e : List Expr} {t t' : TA} (p : PA X e t) (i : ∀ σ H Q, t' σ H Q → t σ H Q) : PA X e t' := ⟨fun pos pins s σ H Q I q => p.run pos pins s σ H Q I (i σ H Q q)⟩
end

/-! ### views -/
def vwp (h : PH) : PV → PV
  | .ref a => match h a with
    | some (.lst xs) => .lst xs
    | some (.dK xs) => .dK xs
    | _ => .ref a
  | p => p
def vw (σp : PSt) (h : PH) : EV → PV
  | .val p => vwp h p
  | .own o => o.pv
  | .bor i => match σp[i]? with
    | some (some (.val p)) => vwp h p
    | some (some (.own o)) => o.pv
    | _ => .bad
section
variable {K : PySem.W.Frag} {mg : Str → Option Value} {F F1 : Ft} {σ : L2.St} {H H1 : Hp} {W : WX} {σp : PSt} {h : PH}
theorem RT.val {p : PV} {v : V} (S : Sm K H F σp h σ) (r : Rp K H F p v) : RT K H F (vwp h p) v := by
  cases r with
  | ref a =>
    unfold vwp
    cases e : h a with
    | none => simp only [e]; exact .inl (.ref a)
    | some o =>
      obtain ⟨⟨u, q, c⟩, f, _⟩ := S.hp a o e
      cases o with
      | lst xs => simp only [e]; exact .inr ⟨a, u, _, rfl, q, c, rfl, rfl⟩
      | dK xs => simp only [e]; exact .inr ⟨a, u, _, rfl, q, c, rfl, rfl⟩
      | ins C xs => simp only [e]; exact .inl (.ref a)
  | non => exact .inl .non
  | bl b => exact .inl (.bl b)
  | int b => exact .inl (.int b)
  | str b => exact .inl (.str b)
  | tup a b => exact .inl (.tup a b)
  | lst a b => exact .inl (.lst a b)
  | rdl a b => exact .inl (.rdl a b)
  | dK a b c => exact .inl (.dK a b c)
  | cst b => exact .inl (.cst _)
  | bad b => exact .inl (.bad _)
theorem RE.rt {x : EV} {v : V} (S : Sm K H F σp h σ) (r : RE K F σ H x v) : RT K H F (vw σp h x) v := by
  cases x with
  | val p => exact RT.val S r
  | own o => exact r.elim
  | bor i =>
    have q : σ[i]? = some (some v) := r
    show RT K H F (match σp[i]? with | some (some (.val p)) => vwp h p | some (some (.own o)) => o.pv | _ => .bad) v
    split
    · rename_i p e
      obtain ⟨w', a, b⟩ := S.val i p e
      rw [q] at a; cases a
      exact RT.val S b
    · rename_i o e
      obtain ⟨a, b, ⟨u, c, d⟩, _, _, z, _⟩ := S.own i o e
      rw [q] at b; cases b
      exact .inr ⟨a, u, o, rfl, c, d, z, rfl⟩
    · exact .inl (.bad _)
theorem RS.rt {H0 : Hp} {x : EV} {v : V} (r : RS K H0 F σp h σ H x v) : RT K H F (vw σp h x) v := by
  cases x with
  | own o => obtain ⟨a, u, e, n, q, c, s, z, _⟩ := r; exact .inr ⟨a, u, o, e, q, c.keep .hide, z, rfl⟩
  | val p => exact RE.rt r.1 r.2
  | bor i => exact RE.rt r.1 r.2
end
section
variable {K : PySem.W.Frag} {H : Hp} {F : Addr → Prop}
/-! what a view says -/
theorem RT.int {i : Int} {v : V} (r : RT K H F (.int i) v) : v = .int i := by
  rcases r with r | ⟨a, u, o, _, _, _, z, e⟩
  · cases r; rfl
  · cases o <;> cases e
theorem RT.bl {i : Bool} {v : V} (r : RT K H F (.bl i) v) : v = .bl i := by
  rcases r with r | ⟨a, u, o, _, _, _, z, e⟩
  · cases r; rfl
  · cases o <;> cases e
theorem RT.str {i : Str} {v : V} (r : RT K H F (.str i) v) : v = .str i := by
  rcases r with r | ⟨a, u, o, _, _, _, z, e⟩
  · cases r; rfl
  · cases o <;> cases e
theorem RT.non {v : V} (r : RT K H F .non v) : v = .non := by
  rcases r with r | ⟨a, u, o, _, _, _, z, e⟩
  · cases r; rfl
  · cases o <;> cases e
theorem RT.cst {c v : V} (r : RT K H F (.cst c) v) : v = c := by
  rcases r with r | ⟨a, u, o, _, _, _, z, e⟩
  · cases r; rfl
  · cases o <;> cases e
theorem RT.lst {xs : List PV} {v : V} (r : RT K H F (.lst xs) v) : ∃ a vs, v = .ref a ∧ H a = some (.lst vs) ∧ RpL K H F xs vs := by
  rcases r with r | ⟨a, u, o, rfl, q, c, z, e⟩
  · cases r with
    | lst q r => exact ⟨_, _, rfl, q.1, r⟩
  · cases o with
    | lst ys => cases e; obtain ⟨vs, rfl, r⟩ := c; exact ⟨a, vs, rfl, q, r⟩
    | dK _ => cases e
    | ins _ _ => cases e
theorem RT.dK {xs : List (Key × PV)} {v : V} (r : RT K H F (.dK xs) v) : ∃ a us, v = .ref a ∧ H a = some (.dK us) ∧ xs.map (·.1) = us.map (·.1) ∧ RpL K H F (xs.map (·.2)) (us.map (·.2)) := by
  rcases r with r | ⟨a, u, o, rfl, q, c, z, e⟩
  · cases r with
    | dK q e r => exact ⟨_, _, rfl, q.1, e, r⟩
  · cases o with
    | dK ys => cases e; obtain ⟨vs, rfl, e, r⟩ := c; exact ⟨a, vs, rfl, q, e, r⟩
    | lst _ => cases e
    | ins _ _ => cases e
theorem RT.tup {xs : List PV} {v : V} (r : RT K H F (.tup xs) v) : ∃ a vs, v = .ref a ∧ SqT K H a vs ∧ RpL K H F xs vs := by
  rcases r with r | ⟨a, u, o, rfl, q, c, z, e⟩
  · cases r with
    | tup q r => exact ⟨_, _, rfl, q.elim (fun z => .inl (.inl z.1)) .inr, r⟩
  · cases o <;> cases e
theorem RT.rdl {xs : List PV} {v : V} (r : RT K H F (.rdl xs) v) : ∃ a vs, v = .ref a ∧ SqL K H a vs ∧ RpL K H F xs vs := by
  rcases r with r | ⟨a, u, o, rfl, q, c, z, e⟩
  · cases r with
    | rdl q r => exact ⟨_, _, rfl, q.elim (fun ⟨o, z⟩ => .inl (.inr ⟨o, z.1⟩)) .inr, r⟩
  · cases o <;> cases e
/-- the items of what may be walked by places -/
def seqOf : PV → Option (List PV)
  | .lst xs => some xs
  | .tup xs => some xs
  | .rdl xs => some xs
  | _ => none
def isTupV : PV → Bool
  | .tup _ => true
  | _ => false
theorem RT.seq {p : PV} {xs : List PV} {v : V} (r : RT K H F p v) (e : seqOf p = some xs) : ∃ a vs, v = .ref a ∧ ((isTupV p = false ∧ SqL K H a vs) ∨ (isTupV p = true ∧ SqT K H a vs)) ∧ RpL K H F xs vs := by
  cases p with
  | lst ys => cases e; obtain ⟨a, vs, rfl, q, r⟩ := r.lst; exact ⟨a, vs, rfl, .inl ⟨rfl, .inl (.inl q)⟩, r⟩
  | rdl ys => cases e; obtain ⟨a, vs, rfl, q, r⟩ := r.rdl; exact ⟨a, vs, rfl, .inl ⟨rfl, q⟩, r⟩
  | tup ys => cases e; obtain ⟨a, vs, rfl, q, r⟩ := r.tup; exact ⟨a, vs, rfl, .inr ⟨rfl, q⟩, r⟩
  | _ => cases e
end

theorem rsv {K : PySem.W.Frag} {F : Ft} {σ : L2.St} {H0 H : Hp} {σp : PSt} {h : PH} {p : PV} {v : V} (s : Sm K H F σp h σ) (r : Rp K H F p v) : RS K H0 F σp h σ H (.val p) v := ⟨s, r⟩
/-! ### two-place operations -/
abbrev P2 := PV → PV → (EV → Prop) → Prop
def MonoP {α β : Type} (g : α → (β → Prop) → Prop) : Prop := ∀ x Q Q', (∀ e, Q e → Q' e) → g x Q → g x Q'
structure OpS (S : Sc) (f : Value → Value → Sem Value) (g : P2) : Prop where
  run : ∀ X, At S X → ∃ r, OpR X f r ∧ ∀ F σp h σ H px py x y Q, Sm X.K H F σp h σ → RT X.K H F px x → RT X.K H F py y → g px py Q →
    ∀ QV : VK, (∀ F' H' ez z, Fr F H F' H' → RS X.K H F' σp h σ H' ez z → Q ez → QV z H') → r x y H QV
  mono : ∀ x y Q Q', (∀ e, Q e → Q' e) → g x y Q → g x y Q'
theorem OpS.or {S : Sc} {f : Value → Value → Sem Value} {g g' : P2} (a : OpS S f g) (b : OpS S f g') : OpS S f (fun x y Q => g x y Q ∨ g' x y Q) where
  run := fun X A => by
    obtain ⟨r, o, q⟩ := a.run X A
    obtain ⟨r', o', q'⟩ := b.run X A
    refine ⟨_, o.or o', fun F σp h σ H px py x y Q s rx ry g QV k => g.elim (fun z => .inl (q _ _ _ _ _ _ _ _ _ _ s rx ry z QV k)) fun z => .inr (q' _ _ _ _ _ _ _ _ _ _ s rx ry z QV k)⟩
  mono := fun x y Q Q' i q => q.elim (fun z => .inl (a.mono _ _ _ _ i z)) fun z => .inr (b.mono _ _ _ _ i z)
def w2 (g : P2) (Ta Tb : WE) : WE := fun σ h Q E => Ta σ h (fun ea σ1 h1 => Tb σ1 h1 (fun eb σ2 h2 => g (vw σ2 h2 (pend ea)) (vw σ2 h2 eb) (fun r => Q r σ2 h2)) E) E
theorem w2_mono {g : P2} {Ta Tb : WE} (ma : Mono Ta) (mb : Mono Tb) (mg : ∀ x y Q Q', (∀ e, Q e → Q' e) → g x y Q → g x y Q') : Mono (w2 g Ta Tb) := fun σ h Q Q' E E' i j q =>
  ma _ _ _ _ _ _ (fun x σ h q => mb _ _ _ _ _ _ (fun y σ h q => mg _ _ _ _ (fun e q => i _ _ _ q) q) j q) j q
/-- the two operands, one after the other -/
theorem LE.two {X : Cx} {Ta Tb : WE} {W : WX} {σ : L2.St} {H : Hp} {R : V → V → Hp → Prop} {G : EV → EV → PSt → PH → Prop} {F : Ft} {σp : PSt} {h : PH} {E : EPost} (ma : Mono Ta) (mb : Mono Tb) (s : Sm X.K H F σp h σ)
    (q : Ta σp h (fun ea σ1 h1 => Tb σ1 h1 (fun eb σ2 h2 => G (pend ea) eb σ2 h2) E) E) (hE : ∀ x σ' h', E x σ' h' → CE' X.K X.mg F σ H W x σ' h')
    (hR : ∀ ea eb σ2 h2 F2 H2 x y, Fr F H F2 H2 → RE X.K F2 σ H2 ea x → RS X.K H F2 σ2 h2 σ H2 eb y → G ea eb σ2 h2 → R x y H2) :
    LE X.K X.mg Ta W σ H fun x H1 => LE X.K X.mg Tb W σ H1 fun y H2 => R x y H2 := by
  refine ⟨F, σp, h, s, ma _ _ _ _ _ _ (fun ea σ1 h1 q1 F1 H1 x f1 r1 => ?_) hE q⟩
  refine ⟨F1, σ1, h1, r1.sm, mb _ _ _ _ _ _ (fun eb σ2 h2 q2 F2 H2 y f2 r2 => ?_) (fun x σ' h' z => (hE _ _ _ z).step f1) q1⟩
  exact hR _ _ _ _ F2 H2 x y (f1.trans f2) (r1.re.keep f2.keep) (r2.early f1.dm) q2
theorem je_op {S : Sc} {a b : Expr} {Ta Tb : WE} {op : Operator} {g : P2} {pos : Pos} (ho : OpS S (binaryOp op) g) (ha : JE S a Ta) (hb : JE S b Tb) : JE S (.BinOp a op b pos) (w2 g Ta Tb) where
  mono := w2_mono ha.mono hb.mono ho.mono
  run := fun X W A tk => by
    obtain ⟨r, o, k⟩ := ho.run X A
    refine pe_weak (pe_op o (ha.run X W A tk) (hb.run X W A tk)) fun σ H Q q => ?_
    obtain ⟨F, σp, h, s, q⟩ := q
    refine LE.two (X := X) (E := CE' X.K X.mg F σ H W) (R := fun x y H2 => r x y H2 Q) (G := fun ea eb σ2 h2 => g (vw σ2 h2 ea) (vw σ2 h2 eb) fun r => CQ X.K F σ H Q r σ2 h2) ha.mono hb.mono s q (fun _ _ _ z => z) fun ea eb σ2 h2 F2 H2 x y f rx ry q => ?_
    exact k F2 σ2 h2 σ H2 _ _ x y _ ry.sm (rx.rt ry.sm) ry.rt q Q fun F3 H3 e3 z f3 r3 q3 => q3 F3 H3 z (f.trans f3) (r3.early f.dm)

/-! ### names, constants -/
def wC (p : PV) : WE := fun σ h Q _ => Q (.val p) σ h
theorem wC_mono {p : PV} : Mono (wC p) := fun _ _ _ _ _ _ i _ q => i _ _ _ q
def wV (i : Nat) : WE := fun σ h Q _ => match σ[i]? with
  | some (some (.val p)) => Q (.val p) σ h
  | some (some (.own _)) => Q (.bor i) σ h
  | _ => False
theorem wV_mono {i : Nat} : Mono (wV i) := fun σ h Q Q' E E' k _ q => by
  unfold wV at q ⊢
  split at q
  · exact k _ _ _ q
  · exact k _ _ _ q
  · exact q.elim
section
variable {S : Sc} {pos : Pos} {x : Str}
theorem je_of_C {e : Expr} {p : PV} {v : V} (r : ∀ H F, Rp S.K H F p v) (h : ∀ X, At S X → PE X e (tC v)) : JE S e (wC p) where
  mono := wC_mono
  run := fun X W A tk => pe_weak (h X A) fun σ H Q ⟨F, σp, h, s, q⟩ => q F H v .refl (rsv s (A.K ▸ r H F))
theorem je_int {i : Int} {j : Nat} : JE S (.Constant (.int i) j pos) (wC (.int i)) := je_of_C (fun _ _ => .int i) fun _ _ => pe_int
theorem je_bl {i : Bool} {j : Nat} : JE S (.Constant (.bool i) j pos) (wC (.bl i)) := je_of_C (fun _ _ => .bl i) fun _ _ => pe_bl
theorem je_str {i : Str} {j : Nat} : JE S (.Constant (.str i) j pos) (wC (.str i)) := je_of_C (fun _ _ => .str i) fun _ _ => pe_str
theorem je_non {j : Nat} : JE S (.Constant .none j pos) (wC .non) := je_of_C (fun _ _ => .non) fun _ _ => pe_non
theorem vis_of {X : Cx} (A : At S X) {x : Str} (h : Vis S.sc x) : Vis X.env.scope x := by rw [A.sc]; exact h
theorem loc_of {X : Cx} (A : At S X) {x : Str} (h : Loc S.sc x) : Loc X.env.scope x := by rw [A.sc]; exact h
theorem gl_of {X : Cx} (A : At S X) {x : Str} (h : S.sc.names.lookup x = some .globalImplicit) : Gl X x := by show X.env.scope.names.lookup x = _; rw [A.sc]; exact h
theorem je_v (i : Nat) (hN : S.N[i]? = some x := by rfl) (hv : Vis S.sc x := by first | exact Or.inl rfl | exact Or.inr (Or.inl rfl) | exact Or.inr (Or.inr rfl)) (hd : (x == ("__debug__" : Str)) = false := by decide) (hcd : (x == ("__classdict__" : Str)) = false := by decide) : JE S (.Name x pos) (wV i) where
  mono := wV_mono
  run := fun X W A tk => by
    refine pe_weak (pe_var (i := i) (by rw [A.N]; exact hN) (vis_of A hv) hd hcd) fun σ H Q ⟨F, σp, h, s, q⟩ => ?_
    unfold wV at q
    split at q
    · rename_i p e
      obtain ⟨v, a, r⟩ := s.val i p e
      exact ⟨v, a, q F H v .refl (rsv s r)⟩
    · rename_i o e
      obtain ⟨a, b, _⟩ := s.own i o e
      exact ⟨_, b, q F H _ .refl ⟨s, b⟩⟩
    · exact q.elim
/-- a global of the module -/
theorem je_g {p : PV} {v : V} {u : Value} (hm : S.mg x = some u) (r : RelV v u) (rp : ∀ H F, Rp S.K H F p v) (hg : S.sc.names.lookup x = some .globalImplicit := by rfl) (hd : (x == ("__debug__" : Str)) = false := by decide) : JE S (.Name x pos) (wC p) :=
  je_of_C rp fun X A => pe_glob (gl_of A hg) (by rw [A.mg]; exact hm) r hd
/-- a built-in name as a value -/
theorem je_b {v : V} {u : Value} (hm : S.mg x = none) (hv : bootBuiltins x = some u) (r : RelV v u) (hg : S.sc.names.lookup x = some .globalImplicit := by rfl) (hn : x ≠ "__name__" := by decide) (hd : (x == ("__debug__" : Str)) = false := by decide) : JE S (.Name x pos) (wC (.cst v)) :=
  je_of_C (fun _ _ => .cst v) fun X A => pe_bltn (gl_of A hg) (by rw [A.mg]; exact hm) hv r hn hd
end

/-! ### arithmetic -/
def pI2 (C : Int → Int → Prop) (f : Int → Int → PV) : P2 := fun x y Q => ∃ i j, x = .int i ∧ y = .int j ∧ C i j ∧ Q (.val (f i j))
theorem ops_I {S : Sc} {f : Value → Value → Sem Value} {C : Int → Int → Prop} {g : Int → Int → V} {g' : Int → Int → PV} (ho : ∀ X, At S X → OpR X f (rI C g)) (hg : ∀ i j K H F, Rp K H F (g' i j) (g i j)) : OpS S f (pI2 C g') where
  mono := fun x y Q Q' i ⟨a, b, e1, e2, c, q⟩ => ⟨a, b, e1, e2, c, i _ q⟩
  run := fun X A => ⟨_, ho X A, fun F σp h σ H px py x y Q s rx ry ⟨i, j, e1, e2, c, q⟩ QV k => by
    subst e1; subst e2
    exact ⟨i, j, rx.int, ry.int, c, k F H _ _ .refl (rsv s (hg _ _ _ _ _)) q⟩⟩
def CAny : Int → Int → Prop := fun _ _ => True
theorem opr_I0 {X : Cx} {f : Value → Value → Sem Value} {g : Int → Int → V} (h : OpR X f (rI0 g)) : OpR X f (rI CAny g) := fun pins s σ H x y v u Q I rx ry ⟨i, j, e1, e2, _, q⟩ => h pins s σ H x y v u Q I rx ry ⟨i, j, e1, e2, q⟩
section
variable {S : Sc}
theorem s_sub : OpS S (binaryOp .Sub) (pI2 CAny fun i j => .int (i - j)) := ops_I (fun _ _ => opr_I0 op_sub) fun _ _ _ _ _ => .int _
theorem s_addI : OpS S (binaryOp .Add) (pI2 CAny fun i j => .int (i + j)) := ops_I (fun _ _ => opr_I0 op_add) fun _ _ _ _ _ => .int _
theorem s_mulI : OpS S (binaryOp .Mult) (pI2 CMul fun i j => .int (i * j)) := ops_I (fun _ _ => op_mul) fun _ _ _ _ _ => .int _
theorem s_fdiv : OpS S (binaryOp .FloorDiv) (pI2 CDivW fun i j => .int (i / j)) := ops_I (fun _ _ => op_fdivW) fun _ _ _ _ _ => .int _
theorem s_mod : OpS S (binaryOp .Mod) (pI2 (fun _ j => 0 < j) fun i j => .int (i % j)) := ops_I (fun _ _ => op_mod) fun _ _ _ _ _ => .int _
theorem s_pow : OpS S (binaryOp .Pow) (pI2 CPow fun i j => .int (i ^ j.toNat)) := ops_I (fun _ _ => op_pow) fun _ _ _ _ _ => .int _
theorem s_lt : OpS S (compareOp .Lt) (pI2 CAny fun i j => .bl (decide (i < j))) := ops_I (fun _ _ => opr_I0 op_lt) fun _ _ _ _ _ => .bl _
theorem s_le : OpS S (compareOp .LtE) (pI2 CAny fun i j => .bl (decide (i ≤ j))) := ops_I (fun _ _ => opr_I0 op_le) fun _ _ _ _ _ => .bl _
theorem s_gt : OpS S (compareOp .Gt) (pI2 CAny fun i j => .bl (decide (j < i))) := ops_I (fun _ _ => opr_I0 op_gt) fun _ _ _ _ _ => .bl _
theorem s_ge : OpS S (compareOp .GtE) (pI2 CAny fun i j => .bl (decide (j ≤ i))) := ops_I (fun _ _ => opr_I0 op_ge) fun _ _ _ _ _ => .bl _
/-- text + text -/
def pStrAdd : P2 := fun x y Q => ∃ a b, x = .str a ∧ y = .str b ∧ a.length + b.length ≤ sizeLine ∧ Q (.val (.str (a ++ b)))
theorem s_addS : OpS S (binaryOp .Add) pStrAdd where
  mono := fun x y Q Q' i ⟨a, b, e1, e2, c, q⟩ => ⟨a, b, e1, e2, c, i _ q⟩
  run := fun X A => ⟨_, op_add_str, fun F σp h σ H px py x y Q s rx ry ⟨i, j, e1, e2, c, q⟩ QV k => by
    subst e1; subst e2
    exact ⟨i, j, rx.str, ry.str, c, k F H _ _ .refl (rsv s (.str _)) q⟩⟩
/-- list + list: a new one -/
def pLstAdd : P2 := fun x y Q => ∃ a b, x = .lst a ∧ y = .lst b ∧ a.length + b.length ≤ sizeLine ∧ Q (.own (.lst (a ++ b)))
theorem s_addL : OpS S (binaryOp .Add) pLstAdd where
  mono := fun x y Q Q' i ⟨a, b, e1, e2, c, q⟩ => ⟨a, b, e1, e2, c, i _ q⟩
  run := fun X A => ⟨_, op_cat, fun F σp h σ H px py x y Q s rx ry ⟨i, j, e1, e2, c, q⟩ QV k => by
    subst e1; subst e2
    obtain ⟨a, vs, rfl, ea, ra⟩ := rx.lst
    obtain ⟨b, us, rfl, eb, rb⟩ := ry.lst
    refine ⟨a, b, vs, us, rfl, rfl, ea, eb, by rw [← ra.length, ← rb.length]; exact c, fun p n => ?_⟩
    exact k F _ _ _ (.new n) (RS.new (o := .lst (i ++ j)) s n ⟨_, rfl, ra.append rb⟩ rfl) q⟩
/-- tuple + tuple -/
def pTupAdd : P2 := fun x y Q => ∃ a b, x = .tup a ∧ y = .tup b ∧ a.length + b.length ≤ sizeLine ∧ Q (.val (.tup (a ++ b)))
theorem Rp.newTup {K : PySem.W.Frag} {H : Hp} {F : Ft} {σp : PSt} {h : PH} {σ : L2.St} {p : Addr} {xs : List PV} {vs : List V} (s : Sm K H F σp h σ) (n : H p = none) (r : RpL K H F xs vs) : Rp K (upd H p (.tup vs)) F (.tup xs) (.ref p) :=
  .tup (.inl ⟨upd_same, s.nf n⟩) (r.keep (.new n))
theorem Rp.tupS {K : PySem.W.Frag} {H : Hp} {F : Addr → Prop} {xs : List PV} {v : V} (r : RT K H F (.tup xs) v) : Rp K H F (.tup xs) v := by
  rcases r with r | ⟨a, u, o, rfl, q, c, z, e⟩
  · exact r
  · cases o <;> cases e
theorem s_addT : OpS S (binaryOp .Add) pTupAdd where
  mono := fun x y Q Q' i ⟨a, b, e1, e2, c, q⟩ => ⟨a, b, e1, e2, c, i _ q⟩
  run := fun X A => ⟨_, op_catA, fun F σp h σ H px py x y Q s rx ry ⟨i, j, e1, e2, c, q⟩ QV k => by
    subst e1; subst e2
    have tx := Rp.tupS rx
    have ty := Rp.tupS ry
    obtain ⟨a, vs, rfl, ea, ra⟩ := rx.tup
    obtain ⟨b, us, rfl, eb, rb⟩ := ry.tup
    refine ⟨a, b, vs, us, rfl, rfl, ea, eb, by rw [← ra.length, ← rb.length]; exact c, fun z => ?_, fun _ z => ?_, fun _ _ p n => ?_⟩
    · subst z
      cases ra
      exact k F _ _ _ .refl (rsv s ty) q
    · subst z
      cases rb
      rw [List.append_nil] at q
      exact k F _ _ _ .refl (rsv s tx) q
    · exact k F _ _ _ (.new n) (rsv (s.new n) (Rp.newTup s n (ra.append rb))) q⟩
theorem OpS.to {f : Value → Value → Sem Value} {g g' : P2} (a : OpS S f g) (m : ∀ x y Q Q', (∀ e, Q e → Q' e) → g' x y Q → g' x y Q') (i : ∀ x y Q, g' x y Q → g x y Q) : OpS S f g' where
  mono := m
  run := fun X A => by
    obtain ⟨r, o, q⟩ := a.run X A
    exact ⟨r, o, fun F σp h σ H px py x y Q s rx ry g QV k => q F σp h σ H px py x y Q s rx ry (i _ _ _ g) QV k⟩
/-- + of ints, texts, lists, tuples -/
def pAdd : P2 := fun x y Q => match x, y with
  | .int i, .int j => Q (.val (.int (i + j)))
  | .str a, .str b => a.length + b.length ≤ sizeLine ∧ Q (.val (.str (a ++ b)))
  | .lst a, .lst b => a.length + b.length ≤ sizeLine ∧ Q (.own (.lst (a ++ b)))
  | .tup a, .tup b => a.length + b.length ≤ sizeLine ∧ Q (.val (.tup (a ++ b)))
  | _, _ => False
theorem pAdd_mono : ∀ x y Q Q', (∀ e, Q e → Q' e) → pAdd x y Q → pAdd x y Q' := fun x y Q Q' i q => by
  unfold pAdd at q ⊢
  split at q
  · exact i _ q
  · exact ⟨q.1, i _ q.2⟩
  · exact ⟨q.1, i _ q.2⟩
  · exact ⟨q.1, i _ q.2⟩
  · exact q.elim
theorem s_add : OpS S (binaryOp .Add) pAdd := (s_addI.or (s_addS.or (s_addL.or s_addT))).to pAdd_mono fun x y Q q => by
  unfold pAdd at q
  split at q
  · exact .inl ⟨_, _, rfl, rfl, trivial, q⟩
  · exact .inr (.inl ⟨_, _, rfl, rfl, q⟩)
  · exact .inr (.inr (.inl ⟨_, _, rfl, rfl, q⟩))
  · exact .inr (.inr (.inr ⟨_, _, rfl, rfl, q⟩))
  · exact q.elim
end
end PP
set_option Elab.async false
set_option linter.all false
set_option maxRecDepth 100000
set_option maxHeartbeats 4000000
namespace PP
open PySem PySem.Spec PyProof.Rows L2

/-! ### data, equality -/
mutual
def dat : PV → Option PyData
  | .non => some .none
  | .bl b => some (.bool b)
  | .int i => some (.int i)
  | .str x => some (.str x)
  | .tup xs => (datL xs).map .tuple
  | .lst xs => (datL xs).map .list
  | _ => none
def datL : List PV → Option (List PyData)
  | [] => some []
  | x :: xs => match dat x, datL xs with
    | some d, some ds => some (d :: ds)
    | _, _ => none
end
section
variable {K : PySem.W.Frag} {H : Hp} {F : Addr → Prop}
mutual
theorem Rp.dp : ∀ {p : PV} {v : V} {d : PyData}, Rp K H F p v → dat p = some d → Dp K H v d
  | _, _, _, .non, e => by rw [dat] at e; cases e; exact .non
  | _, _, _, .bl b, e => by rw [dat] at e; cases e; exact .bl b
  | _, _, _, .int b, e => by rw [dat] at e; cases e; exact .int b
  | _, _, _, .str b, e => by rw [dat] at e; cases e; exact .str b
  | _, _, _, @Rp.tup _ _ _ a xs vs q r, e => by
    rw [dat] at e
    cases h : datL xs with
    | none => rw [h] at e; cases e
    | some ds => rw [h] at e; cases e; exact .tup (q.elim (fun z => .inl (.inl z.1)) .inr) (RpL.dp r h)
  | _, _, _, @Rp.lst _ _ _ a xs vs q r, e => by
    rw [dat] at e
    cases h : datL xs with
    | none => rw [h] at e; cases e
    | some ds => rw [h] at e; cases e; exact .lst (.inl (.inl q.1)) (RpL.dp r h)
  | _, _, _, .rdl _ _, e => by rw [dat] at e <;> cases e
  | _, _, _, .dK _ _ _, e => by rw [dat] at e <;> cases e
  | _, _, _, .ref _, e => by rw [dat] at e <;> cases e
  | _, _, _, .cst _, e => by rw [dat] at e <;> cases e
  | _, _, _, .bad _, e => by rw [dat] at e <;> cases e
theorem RpL.dp : ∀ {p : List PV} {v : List V} {d : List PyData}, RpL K H F p v → datL p = some d → DpAll K H v d
  | _, _, _, .nil, e => by rw [datL] at e; cases e; exact .nil
  | _, _, _, @RpL.cons _ _ _ p v ps vs a b, e => by
    rw [datL] at e
    cases h : dat p with
    | none => rw [h] at e; cases e
    | some d =>
      cases h2 : datL ps with
      | none => rw [h, h2] at e; cases e
      | some ds => rw [h, h2] at e; cases e; exact .cons (Rp.dp a h) (RpL.dp b h2)
end
theorem RT.dp {p : PV} {v : V} {d : PyData} (r : RT K H F p v) (e : dat p = some d) : Dp K H v d := by
  rcases r with r | ⟨a, u, o, rfl, q, c, z, e1⟩
  · exact r.dp e
  · subst e1
    cases o with
    | lst xs =>
      obtain ⟨vs, rfl, r⟩ := c
      rw [show (PO.lst xs).pv = .lst xs from rfl, dat] at e
      cases h : datL xs with
      | none => rw [h] at e; cases e
      | some ds => rw [h] at e; cases e; exact .lst (.inl (.inl q)) (RpL.dp r h)
    | dK xs => rw [show (PO.dK xs).pv = .dK xs from rfl, dat] at e <;> cases e
    | ins _ _ => cases z
end
/-- == of views; none where the rules do not say -/
def pEqB (x y : PV) : Option Bool := match x, y with
  | .int i, .int j => some (decide (i = j))
  | .str i, .str j => some (decide (i = j))
  | .bl i, .bl j => some (decide (i = j))
  | .non, .non => some true
  | .non, .int _ => some false
  | .int _, .non => some false
  | .non, .bl _ => some false
  | .bl _, .non => some false
  | .non, .str _ => some false
  | .str _, .non => some false
  | .int _, .str _ => some false
  | .str _, .int _ => some false
  | .bl _, .str _ => some false
  | .str _, .bl _ => some false
  | x, y => match dat x, dat y with
    | some d, some e => if SeqAt.shaped d && SeqAt.shaped e then some (PyData.eqv d e) else none
    | _, _ => none
def pEq (n : Bool) : P2 := fun x y Q => ∃ b, pEqB x y = some b ∧ Q (.val (.bl (if n then !b else b)))
theorem pEq_mono {n : Bool} : ∀ x y Q Q', (∀ e, Q e → Q' e) → pEq n x y Q → pEq n x y Q' := fun x y Q Q' i ⟨b, e, q⟩ => ⟨b, e, i _ q⟩
theorem pEqB_cases {K : PySem.W.Frag} {H : Hp} {F : Addr → Prop} {x y : PV} {v u : V} {b : Bool} (e : pEqB x y = some b) (rx : RT K H F x v) (ry : RT K H F y u) :
    (scal v u = true ∧ decide (v = u) = b) ∨ ∃ d d', Dp K H v d ∧ Dp K H u d' ∧ SeqAt.shaped d = true ∧ SeqAt.shaped d' = true ∧ PyData.eqv d d' = b := by
  unfold pEqB at e
  split at e
  all_goals first
    | (cases e; first
        | (have := rx.int; have := ry.int; subst_vars; exact .inl ⟨rfl, by simp⟩)
        | (have := rx.str; have := ry.str; subst_vars; exact .inl ⟨rfl, by simp⟩)
        | (have := rx.bl; have := ry.bl; subst_vars; exact .inl ⟨rfl, by simp⟩)
        | (have := rx.non; have := ry.non; subst_vars; exact .inl ⟨rfl, by simp⟩)
        | (have := rx.non; have := ry.int; subst_vars; exact .inl ⟨rfl, by simp⟩)
        | (have := rx.int; have := ry.non; subst_vars; exact .inl ⟨rfl, by simp⟩)
        | (have := rx.non; have := ry.bl; subst_vars; exact .inl ⟨rfl, by simp⟩)
        | (have := rx.bl; have := ry.non; subst_vars; exact .inl ⟨rfl, by simp⟩)
        | (have := rx.non; have := ry.str; subst_vars; exact .inl ⟨rfl, by simp⟩)
        | (have := rx.str; have := ry.non; subst_vars; exact .inl ⟨rfl, by simp⟩)
        | (have := rx.int; have := ry.str; subst_vars; exact .inl ⟨rfl, by simp⟩)
        | (have := rx.str; have := ry.int; subst_vars; exact .inl ⟨rfl, by simp⟩)
        | (have := rx.bl; have := ry.str; subst_vars; exact .inl ⟨rfl, by simp⟩)
        | (have := rx.str; have := ry.bl; subst_vars; exact .inl ⟨rfl, by simp⟩))
    | (split at e
       · rename_i d d' e1 e2
         split at e
         · rename_i c
           cases e
           rw [Bool.and_eq_true] at c
           exact .inr ⟨d, d', rx.dp e1, ry.dp e2, c.1, c.2, rfl⟩
         · cases e
       · cases e)
section
variable {S : Sc}
theorem s_eq : OpS S (compareOp .Eq) (pEq false) where
  mono := pEq_mono
  run := fun X A => ⟨_, op_eq.or (op_eqD (by have := A.units; omega)), fun F σp h σ H px py x y Q s rx ry ⟨b, e, q⟩ QV k => by
    have fin : QV (.bl b) H := k F H (.val (.bl b)) _ .refl (rsv s (.bl b)) q
    rcases pEqB_cases e rx ry with ⟨a, c⟩ | ⟨d, d', a, c, e1, e2, e3⟩
    · exact .inl ⟨a, by rw [c]; exact fin⟩
    · exact .inr ⟨d, d', a, c, e1, e2, by rw [e3]; exact fin⟩⟩
theorem s_ne : OpS S (compareOp .NotEq) (pEq true) where
  mono := pEq_mono
  run := fun X A => ⟨_, op_ne.or (op_neD (by have := A.units; omega)), fun F σp h σ H px py x y Q s rx ry ⟨b, e, q⟩ QV k => by
    have fin : QV (.bl (!b)) H := k F H (.val (.bl (!b))) _ .refl (rsv s (.bl _)) q
    rcases pEqB_cases e rx ry with ⟨a, c⟩ | ⟨d, d', a, c, e1, e2, e3⟩
    · exact .inl ⟨a, by rw [c]; exact fin⟩
    · exact .inr ⟨d, d', a, c, e1, e2, by rw [e3]; exact fin⟩⟩
/-! ### is None -/
def isNon : PV → Option Bool
  | .non => some true
  | .bad => none
  | .cst _ => none
  | _ => some false
def pIsN (n : Bool) : P2 := fun x y Q => y = .non ∧ ∃ b, isNon x = some b ∧ Q (.val (.bl (if n then !b else b)))
theorem RT.isNon {K : PySem.W.Frag} {H : Hp} {F : Addr → Prop} {x : PV} {v : V} {b : Bool} (r : RT K H F x v) (e : PP.isNon x = some b) : decide (v = .non) = b := by
  rcases r with r | ⟨a, u, o, rfl, q, c, z, e1⟩
  · cases r <;> first | (cases e; simp) | cases e
  · subst e1
    cases o <;> first | (cases e; simp) | cases z
theorem s_isN : OpS S (compareOp .Is) (pIsN false) where
  mono := fun x y Q Q' i ⟨a, b, e, q⟩ => ⟨a, b, e, i _ q⟩
  run := fun X A => ⟨_, op_isN, fun F σp h σ H px py x y Q s rx ry ⟨e0, b, e, q⟩ QV k => by
    subst e0
    exact ⟨ry.non, by rw [rx.isNon e]; exact k F H _ _ .refl (rsv s (.bl b)) q⟩⟩
theorem s_notN : OpS S (compareOp .IsNot) (pIsN true) where
  mono := fun x y Q Q' i ⟨a, b, e, q⟩ => ⟨a, b, e, i _ q⟩
  run := fun X A => ⟨_, op_notN, fun F σp h σ H px py x y Q s rx ry ⟨e0, b, e, q⟩ QV k => by
    subst e0
    exact ⟨ry.non, by rw [rx.isNon e]; exact k F H _ _ .refl (rsv s (.bl _)) q⟩⟩
end
/-! ### in: flat items, one sign in a text -/
def flatP : PV → Option V
  | .non => some .non
  | .bl b => some (.bl b)
  | .int i => some (.int i)
  | .str x => some (.str x)
  | _ => none
def flatL : List PV → Option (List V)
  | [] => some []
  | x :: xs => match flatP x, flatL xs with
    | some d, some ds => some (d :: ds)
    | _, _ => none
section
variable {K : PySem.W.Frag} {H : Hp} {F : Addr → Prop}
theorem Rp.flat {p : PV} {v w : V} (r : Rp K H F p v) (e : flatP p = some w) : v = w ∧ flatV v = true := by
  cases r <;> first | (cases e; exact ⟨rfl, rfl⟩) | cases e
theorem RpL.flat : ∀ {p : List PV} {v w : List V}, RpL K H F p v → flatL p = some w → v = w ∧ v.all flatV = true
  | _, _, _, .nil, e => by rw [flatL] at e; cases e; exact ⟨rfl, rfl⟩
  | _, _, _, @RpL.cons _ _ _ p v ps vs a b, e => by
    rw [flatL] at e
    cases h : flatP p with
    | none => rw [h] at e; cases e
    | some d =>
      cases h2 : flatL ps with
      | none => rw [h, h2] at e; cases e
      | some ds =>
        rw [h, h2] at e; cases e
        obtain ⟨rfl, z⟩ := a.flat h
        obtain ⟨rfl, z2⟩ := b.flat h2
        exact ⟨rfl, by rw [List.all_cons, z, z2]; rfl⟩
theorem RT.flat {p : PV} {v w : V} (r : RT K H F p v) (e : flatP p = some w) : v = w ∧ flatV v = true := by
  rcases r with r | ⟨a, u, o, rfl, q, c, z, e1⟩
  · exact r.flat e
  · subst e1; cases o <;> cases e
end
def sgn (s : Str) : Option Nat := match s.cps.toList with
  | [c] => some c
  | _ => none
theorem sgn_eq {s : Str} {c : Nat} (h : sgn s = some c) : s = ⟨#[c]⟩ := by
  obtain ⟨⟨l⟩⟩ := s
  unfold sgn at h
  split at h
  · rename_i d e
    cases h
    have : l = [c] := e
    rw [this]
  · cases h
def pInB (x y : PV) : Option Bool := match x, y with
  | .str s, .str z => (sgn s).map fun c => decide (c ∈ z.cps.toList)
  | x, y => match flatP x, (seqOf y).bind flatL with
    | some v, some vs => some (inV v vs)
    | _, _ => none
def pIn (n : Bool) : P2 := fun x y Q => ∃ b, pInB x y = some b ∧ Q (.val (.bl (if n then !b else b)))
theorem pIn_mono {n : Bool} : ∀ x y Q Q', (∀ e, Q e → Q' e) → pIn n x y Q → pIn n x y Q' := fun x y Q Q' i ⟨b, e, q⟩ => ⟨b, e, i _ q⟩
theorem pInB_cases {K : PySem.W.Frag} {H : Hp} {F : Addr → Prop} {x y : PV} {v u : V} {b : Bool} (e : pInB x y = some b) (rx : RT K H F x v) (ry : RT K H F y u) :
    (∃ (c : Nat) (z : Str), v = .str ⟨#[c]⟩ ∧ u = .str z ∧ decide (c ∈ z.cps.toList) = b) ∨ ∃ p xs, u = .ref p ∧ (SqL K H p xs ∨ SqT K H p xs) ∧ flatV v = true ∧ xs.all flatV = true ∧ inV v xs = b := by
  unfold pInB at e
  split at e
  · rename_i s0 z
    cases hs : sgn s0 with
    | none => rw [hs] at e; cases e
    | some c =>
      rw [hs] at e; cases e
      exact .inl ⟨c, z, by rw [rx.str, sgn_eq hs], ry.str, rfl⟩
  · split at e
    · rename_i v' vs e1 e2
      cases e
      obtain ⟨rfl, f1⟩ := rx.flat e1
      cases h : seqOf y with
      | none => rw [h] at e2; cases e2
      | some ys =>
        rw [h] at e2
        obtain ⟨a, ws, rfl, q, r⟩ := ry.seq h
        obtain ⟨rfl, f2⟩ := r.flat e2
        exact .inr ⟨a, ws, rfl, q.elim (fun z => .inl z.2) (fun z => .inr z.2), f1, f2, rfl⟩
    · cases e
section
variable {S : Sc}
theorem s_in : OpS S (compareOp .In) (pIn false) where
  mono := pIn_mono
  run := fun X A => ⟨_, op_in_sign.or op_in_seq, fun F σp h σ H px py x y Q s rx ry ⟨b, e, q⟩ QV k => by
    have fin : QV (.bl b) H := k F H (.val (.bl b)) _ .refl (rsv s (.bl b)) q
    rcases pInB_cases e rx ry with ⟨c, z, rfl, rfl, e⟩ | ⟨p, xs, rfl, a, f1, f2, e⟩
    · exact .inl ⟨c, z, rfl, rfl, by rw [e]; exact fin⟩
    · exact .inr ⟨p, xs, rfl, a, f1, f2, by rw [e]; exact fin⟩⟩
theorem s_notIn : OpS S (compareOp .NotIn) (pIn true) where
  mono := pIn_mono
  run := fun X A => ⟨_, op_notIn_sign.or op_notIn_seq, fun F σp h σ H px py x y Q s rx ry ⟨b, e, q⟩ QV k => by
    have fin : QV (.bl (!b)) H := k F H (.val (.bl (!b))) _ .refl (rsv s (.bl _)) q
    rcases pInB_cases e rx ry with ⟨c, z, rfl, rfl, e⟩ | ⟨p, xs, rfl, a, f1, f2, e⟩
    · exact .inl ⟨c, z, rfl, rfl, by rw [e]; exact fin⟩
    · exact .inr ⟨p, xs, rfl, a, f1, f2, by rw [e]; exact fin⟩⟩
end

/-! ### comparisons, chains -/
section
variable {S : Sc} {a b c : Expr} {Ta Tb Tc : WE} {op op' : CmpOp} {g g' : P2} {pos : Pos}
theorem je_cmp (ho : OpS S (compareOp op) g) (ha : JE S a Ta) (hb : JE S b Tb) (hm : behindInMarks op b = false := by first | exact nomark _ | with_unfolding_all rfl) : JE S (.Compare a [op] [b] pos) (w2 g Ta Tb) where
  mono := w2_mono ha.mono hb.mono ho.mono
  run := fun X W A tk => by
    obtain ⟨r, o, k⟩ := ho.run X A
    refine pe_weak (pe_cmpR o (ha.run X W A tk) (hb.run X W A tk) hm) fun σ H Q q => ?_
    obtain ⟨F, σp, h, s, q⟩ := q
    refine LE.two (X := X) (E := CE' X.K X.mg F σ H W) (R := fun x y H2 => r x y H2 Q) (G := fun ea eb σ2 h2 => g (vw σ2 h2 ea) (vw σ2 h2 eb) fun r => CQ X.K F σ H Q r σ2 h2) ha.mono hb.mono s q (fun _ _ _ z => z) fun ea eb σ2 h2 F2 H2 x y f rx ry q => ?_
    exact k F2 σ2 h2 σ H2 _ _ x y _ ry.sm (rx.rt ry.sm) ry.rt q Q fun F3 H3 e3 z f3 r3 q3 => q3 F3 H3 z (f.trans f3) (r3.early f.dm)
/-- a op b op' c -/
def wChain (g g' : P2) (Ta Tb Tc : WE) : WE := fun σ h Q E => Ta σ h (fun ea σ1 h1 => Tb σ1 h1 (fun eb σ2 h2 => g (vw σ2 h2 (pend ea)) (vw σ2 h2 (pend eb)) (fun r => ∃ k, r = .val (.bl k) ∧
  if k = true then Tc σ2 h2 (fun ec σ3 h3 => g' (vw σ3 h3 (pend eb)) (vw σ3 h3 ec) (fun r => Q r σ3 h3)) E else Q (.val (.bl false)) σ2 h2)) E) E
theorem je_chain (ho : OpS S (compareOp op) g) (ho' : OpS S (compareOp op') g') (ha : JE S a Ta) (hb : JE S b Tb) (hc : JE S c Tc) (hm : lastMarks [op, op'] [b, c] = false := by with_unfolding_all rfl) : JE S (.Compare a [op, op'] [b, c] pos) (wChain g g' Ta Tb Tc) where
  mono := fun σ h Q Q' E E' i j q => ha.mono _ _ _ _ _ _ (fun x σ h q => hb.mono _ _ _ _ _ _ (fun y σ h q => ho.mono _ _ _ _ (fun e ⟨k, e1, q⟩ => ⟨k, e1, by
    cases k with
    | true => exact hc.mono _ _ _ _ _ _ (fun z σ h q => ho'.mono _ _ _ _ (fun e q => i _ _ _ q) q) j q
    | false => exact i _ _ _ q⟩) q) j q) j q
  run := fun X W A tk => by
    obtain ⟨r, o, k⟩ := ho.run X A
    obtain ⟨r', o', k'⟩ := ho'.run X A
    refine pe_weak (pe_chain o o' (ha.run X W A tk) (hb.run X W A tk) (hc.run X W A tk) hm) fun σ H Q q => ?_
    obtain ⟨F, σp, h, s, q⟩ := q
    refine ⟨F, σp, h, s, ha.mono _ _ _ _ _ _ (fun ea σ1 h1 q1 F1 H1 x f1 r1 => ?_) (fun _ _ _ z => z) q⟩
    refine ⟨F1, σ1, h1, r1.sm, hb.mono _ _ _ _ _ _ (fun eb σ2 h2 q2 F2 H2 y f2 r2 => ?_) (fun x σ' h' z => z.step f1) q1⟩
    have ra := r1.re.keep f2.keep
    have rb := r2.re
    refine k F2 σ2 h2 σ H2 _ _ x y _ r2.sm (ra.rt r2.sm) (rb.rt r2.sm) q2 _ fun F3 H3 e3 z f3 r3 q3 => ?_
    obtain ⟨b, rfl, q3⟩ := q3
    obtain ⟨s3, r3⟩ := r3
    cases r3
    refine ⟨b, rfl, ?_⟩
    cases b with
    | false => exact q3 F3 H3 _ ((f1.trans f2).trans f3) ⟨s3, .bl _⟩
    | true =>
      refine ⟨F3, σ2, h2, s3, hc.mono _ _ _ _ _ _ (fun ec σ4 h4 q4 F4 H4 z f4 r4 => ?_) (fun x σ' h' z => z.step ((f1.trans f2).trans f3)) q3⟩
      exact k' F4 σ4 h4 σ H4 _ _ y z _ r4.sm ((rb.keep (f3.trans f4).keep).rt r4.sm) r4.rt q4 Q fun F5 H5 e5 z f5 r5 q5 => q5 F5 H5 z (((f1.trans f2).trans (f3.trans f4)).trans f5) (r5.early ((f1.trans f2).trans (f3.trans f4)).dm)
end

/-! ### tests -/
def truB : PV → Option Bool
  | .non => some false
  | .bl b => some b
  | .int i => some (i != 0)
  | .str y => if y.length ≤ sizeLine then some ((y.length : Int) != 0) else none
  | .lst xs => some (!xs.isEmpty)
  | .rdl xs => some (!xs.isEmpty)
  | .tup xs => some (!xs.isEmpty)
  | .dK xs => some (!xs.isEmpty)
  | _ => none
theorem isEmpty_len {α β : Type} : ∀ {xs : List α} {ys : List β}, xs.length = ys.length → (!xs.isEmpty) = !ys.isEmpty
  | [], [], _ => rfl
  | _ :: _, _ :: _, _ => rfl
theorem RT.tru {K : PySem.W.Frag} {H : Hp} {F : Addr → Prop} {x : PV} {v : V} {b : Bool} (r : RT K H F x v) (e : truB x = some b) : TruV K v H b := by
  cases x with
  | non => rw [r.non]; cases e; rfl
  | bl i => rw [r.bl]; cases e; rfl
  | int i => rw [r.int]; cases e; rfl
  | str i =>
    rw [r.str]
    have e : (if i.length ≤ sizeLine then some ((i.length : Int) != 0) else none) = some b := e
    split at e
    · cases e; exact ⟨by assumption, rfl⟩
    · cases e
  | lst xs => obtain ⟨a, vs, rfl, q, r⟩ := r.lst; cases e; exact .inl ⟨vs, .inl (.inl q), isEmpty_len r.length⟩
  | rdl xs => obtain ⟨a, vs, rfl, q, r⟩ := r.rdl; cases e; exact .inl ⟨vs, q, isEmpty_len r.length⟩
  | tup xs => obtain ⟨a, vs, rfl, q, r⟩ := r.tup; cases e; exact .inr (.inl ⟨vs, q, isEmpty_len r.length⟩)
  | dK xs => obtain ⟨a, vs, rfl, q, e1, r⟩ := r.dK; cases e; exact .inr (.inr ⟨vs, q, isEmpty_len (by have := congrArg List.length e1; simpa using this)⟩)
  | _ => cases e
/-- an expression's truth -/
def wTru (T : WE) : WT := fun σ h Q E => T σ h (fun e σ1 h1 => ∃ b, truB (vw σ1 h1 e) = some b ∧ Q b σ1 h1) E
def wAndT (T U : WT) : WT := fun σ h Q E => T σ h (fun b σ1 h1 => if b = true then U σ1 h1 Q E else Q false σ1 h1) E
def wOrT (T U : WT) : WT := fun σ h Q E => T σ h (fun b σ1 h1 => if b = true then Q true σ1 h1 else U σ1 h1 Q E) E
def wNotT (T : WT) : WT := fun σ h Q E => T σ h (fun b σ1 h1 => Q (!b) σ1 h1) E
structure JW (S : Sc) (e : Expr) (T : WT) : Prop where
  run : ∀ X W, At S X → Takes X W → PW X e (LT X.K X.mg T W)
  mono : Mono T
section
variable {S : Sc} {a b c : Expr} {Ta Tb Tc : WE} {U V' : WT} {rest : List Expr} {pos : Pos}
theorem jt_tru (ha : JE S a Ta) (he : ∀ env whole, isTrue a env whole = (do let v ← whole; standAt a.pos; holding [v] (truthy v)) := by intro _ _; rfl) : JT S a (wTru Ta) where
  mono := fun σ h Q Q' E E' i j q => ha.mono _ _ _ _ _ _ (fun x σ h ⟨b, e, q⟩ => ⟨b, e, i _ _ _ q⟩) j q
  run := fun X W A tk => by
    refine pt_weak (pt_truth (ha.run X W A tk) (he X.env)) fun σ H Q q => ?_
    obtain ⟨F, σp, h, s, q⟩ := q
    refine ⟨F, σp, h, s, ha.mono _ _ _ _ _ _ (fun ea σ1 h1 ⟨b, e, q1⟩ F1 H1 x f1 r1 => ?_) (fun _ _ _ z => z) q⟩
    exact ⟨b, r1.rt.tru e, q1 F1 H1 f1 r1.sm⟩
/-- a comparison as a test -/
def wTb (T : WE) : WT := fun σ h Q E => T σ h (fun e σ1 h1 => ∃ b, e = .val (.bl b) ∧ Q b σ1 h1) E
theorem wTb_mono (h : Mono Ta) : Mono (wTb Ta) := fun σ h' Q Q' E E' i j q => h _ _ _ _ _ _ (fun x σ h ⟨b, e, q⟩ => ⟨b, e, i _ _ _ q⟩) j q
theorem jt_cmp {op : CmpOp} {g : P2} (ho : OpS S (compareOp op) g) (ha : JE S a Ta) (hb : JE S b Tb) (hm : behindInMarks op b = false := by first | exact nomark _ | with_unfolding_all rfl) : JT S (.Compare a [op] [b] pos) (wTb (w2 g Ta Tb)) where
  mono := wTb_mono (w2_mono ha.mono hb.mono ho.mono)
  run := fun X W A tk => by
    obtain ⟨r, o, k⟩ := ho.run X A
    refine pt_weak (pt_cmpR o (ha.run X W A tk) (hb.run X W A tk) hm) fun σ H Q q => ?_
    obtain ⟨F, σp, h, s, q⟩ := q
    refine LE.two (X := X) (E := CE' X.K X.mg F σ H W) (R := fun x y H2 => r x y H2 fun x H' => ∃ k, x = .bl k ∧ Q k H') (G := fun ea eb σ2 h2 => g (vw σ2 h2 ea) (vw σ2 h2 eb) fun r => ∃ b, r = .val (.bl b) ∧ CT X.K F σ H Q b σ2 h2) ha.mono hb.mono s q (fun _ _ _ z => z) fun ea eb σ2 h2 F2 H2 x y f rx ry q => ?_
    refine k F2 σ2 h2 σ H2 _ _ x y _ ry.sm (rx.rt ry.sm) ry.rt q _ fun F3 H3 e3 z f3 r3 ⟨b, e, q3⟩ => ?_
    subst e
    obtain ⟨s3, r3⟩ := r3
    cases r3
    exact ⟨b, rfl, q3 F3 H3 (f.trans f3) s3⟩
theorem jt_chain {op op' : CmpOp} {g g' : P2} (ho : OpS S (compareOp op) g) (ho' : OpS S (compareOp op') g') (ha : JE S a Ta) (hb : JE S b Tb) (hc : JE S c Tc) (hm : lastMarks [op, op'] [b, c] = false := by with_unfolding_all rfl) : JT S (.Compare a [op, op'] [b, c] pos) (wTb (wChain g g' Ta Tb Tc)) where
  mono := wTb_mono (je_chain (pos := pos) ho ho' ha hb hc hm).mono
  run := fun X W A tk => by
    obtain ⟨r, o, k⟩ := ho.run X A
    obtain ⟨r', o', k'⟩ := ho'.run X A
    refine pt_weak (pt_chain o o' (ha.run X W A tk) (hb.run X W A tk) (hc.run X W A tk) hm) fun σ H Q q => ?_
    obtain ⟨F, σp, h, s, q⟩ := q
    refine ⟨F, σp, h, s, ha.mono _ _ _ _ _ _ (fun ea σ1 h1 q1 F1 H1 x f1 r1 => ?_) (fun _ _ _ z => z) q⟩
    refine ⟨F1, σ1, h1, r1.sm, hb.mono _ _ _ _ _ _ (fun eb σ2 h2 q2 F2 H2 y f2 r2 => ?_) (fun x σ' h' z => z.step f1) q1⟩
    have ra := r1.re.keep f2.keep
    have rb := r2.re
    refine k F2 σ2 h2 σ H2 _ _ x y _ r2.sm (ra.rt r2.sm) (rb.rt r2.sm) q2 _ fun F3 H3 e3 z f3 r3 q3 => ?_
    obtain ⟨b, rfl, q3⟩ := q3
    obtain ⟨s3, r3⟩ := r3
    cases r3
    refine ⟨b, rfl, ?_⟩
    cases b with
    | false =>
      obtain ⟨b, e, q3⟩ := q3
      cases e
      exact ⟨_, rfl, q3 F3 H3 ((f1.trans f2).trans f3) s3⟩
    | true =>
      refine ⟨F3, σ2, h2, s3, hc.mono _ _ _ _ _ _ (fun ec σ4 h4 q4 F4 H4 z f4 r4 => ?_) (fun x σ' h' z => z.step ((f1.trans f2).trans f3)) q3⟩
      refine k' F4 σ4 h4 σ H4 _ _ y z _ r4.sm ((rb.keep (f3.trans f4).keep).rt r4.sm) r4.rt q4 _ fun F5 H5 e5 z f5 r5 ⟨b, e, q5⟩ => ?_
      subst e
      obtain ⟨s5, r5⟩ := r5
      cases r5
      exact ⟨b, rfl, q5 F5 H5 (((f1.trans f2).trans (f3.trans f4)).trans f5) s5⟩
theorem wAndT_mono (h : Mono U) (h' : Mono V') : Mono (wAndT U V') := fun σ x Q Q' E E' i j q => h _ _ _ _ _ _ (fun b σ x q => by
  cases b with
  | true => exact h' _ _ _ _ _ _ i j q
  | false => exact i _ _ _ q) j q
theorem wOrT_mono (h : Mono U) (h' : Mono V') : Mono (wOrT U V') := fun σ x Q Q' E E' i j q => h _ _ _ _ _ _ (fun b σ x q => by
  cases b with
  | false => exact h' _ _ _ _ _ _ i j q
  | true => exact i _ _ _ q) j q
theorem CT.step {K : PySem.W.Frag} {F F1 : Ft} {σ : L2.St} {H H1 : Hp} {Q : Bool → Hp → Prop} {b : Bool} {σp : PSt} {h : PH} (f : Fr F H F1 H1) (q : CT K F σ H Q b σp h) : CT K F1 σ H1 Q b σp h := fun F' H' g s => q F' H' (f.trans g) s
theorem CQ.step {K : PySem.W.Frag} {F F1 : Ft} {σ : L2.St} {H H1 : Hp} {Q : VK} {b : EV} {σp : PSt} {h : PH} (f : Fr F H F1 H1) (q : CQ K F σ H Q b σp h) : CQ K F1 σ H1 Q b σp h := fun F' H' v g s => q F' H' v (f.trans g) (s.early f.dm)
theorem jw_and1 (ha : JT S a U) : JW S (.BoolOp .And [a] pos) U := ⟨fun X W A tk => pw_and1 (ha.run X W A tk), ha.mono⟩
theorem jw_or1 (ha : JT S a U) : JW S (.BoolOp .Or [a] pos) U := ⟨fun X W A tk => pw_or1 (ha.run X W A tk), ha.mono⟩
theorem PW.weak {X : Cx} {e : Expr} {t t' : TT} (p : PW X e t) (i : ∀ σ H Q, t' σ H Q → t σ H Q) : PW X e t' := ⟨fun wh pins s σ H Q I q => p.run wh pins s σ H Q I (i σ H Q q)⟩
theorem jw_and (ha : JT S a U) (hb : JW S (.BoolOp .And (b :: rest) pos) V') : JW S (.BoolOp .And (a :: b :: rest) pos) (wAndT U V') where
  mono := wAndT_mono ha.mono hb.mono
  run := fun X W A tk => by
    refine PW.weak (pw_and (ha.run X W A tk) (hb.run X W A tk)) fun σ H Q q => ?_
    obtain ⟨F, σp, h, s, q⟩ := q
    refine ⟨F, σp, h, s, ha.mono _ _ _ _ _ _ (fun k σ1 h1 q1 F1 H1 f1 s1 => ?_) (fun _ _ _ z => z) q⟩
    cases k with
    | false => exact q1 F1 H1 f1 s1
    | true => exact ⟨F1, σ1, h1, s1, hb.mono _ _ _ _ _ _ (fun _ _ _ z => CT.step f1 z) (fun _ _ _ z => z.step f1) q1⟩
theorem jw_or (ha : JT S a U) (hb : JW S (.BoolOp .Or (b :: rest) pos) V') : JW S (.BoolOp .Or (a :: b :: rest) pos) (wOrT U V') where
  mono := wOrT_mono ha.mono hb.mono
  run := fun X W A tk => by
    refine PW.weak (pw_or (ha.run X W A tk) (hb.run X W A tk)) fun σ H Q q => ?_
    obtain ⟨F, σp, h, s, q⟩ := q
    refine ⟨F, σp, h, s, ha.mono _ _ _ _ _ _ (fun k σ1 h1 q1 F1 H1 f1 s1 => ?_) (fun _ _ _ z => z) q⟩
    cases k with
    | true => exact q1 F1 H1 f1 s1
    | false => exact ⟨F1, σ1, h1, s1, hb.mono _ _ _ _ _ _ (fun _ _ _ z => CT.step f1 z) (fun _ _ _ z => z.step f1) q1⟩
theorem JW.t (h : JW S a U) : JT S a U := ⟨fun X W A tk => (h.run X W A tk).pt, h.mono⟩
theorem jt_not (ha : JT S a U) : JT S (.UnaryOp .Not a pos) (wNotT U) where
  mono := fun σ h Q Q' E E' i j q => ha.mono _ _ _ _ _ _ (fun x σ h q => i _ _ _ q) j q
  run := fun X W A tk => pt_weak (pt_not (ha.run X W A tk)) fun σ H Q ⟨F, σp, h, s, q⟩ => ⟨F, σp, h, s, q⟩
/-! ### .. as values -/
def wAndV (Ta Tb : WE) : WE := fun σ h Q E => Ta σ h (fun e σ1 h1 => ∃ b, e = .val (.bl b) ∧ if b = true then Tb σ1 h1 Q E else Q (.val (.bl false)) σ1 h1) E
def wOrV (Ta Tb : WE) : WE := fun σ h Q E => Ta σ h (fun e σ1 h1 => ∃ b, e = .val (.bl b) ∧ if b = true then Q (.val (.bl true)) σ1 h1 else Tb σ1 h1 Q E) E
def wNotV (Ta : WE) : WE := fun σ h Q E => Ta σ h (fun e σ1 h1 => ∃ b, e = .val (.bl b) ∧ Q (.val (.bl (!b))) σ1 h1) E
theorem je_one {op : BoolOp} (h : JE S a Ta) : JE S (.BoolOp op [a] pos) Ta := ⟨fun X W A tk => pe_one (h.run X W A tk), h.mono⟩
theorem je_and (ha : JE S a Ta) (hb : JE S (.BoolOp .And (b :: rest) pos) Tb) : JE S (.BoolOp .And (a :: b :: rest) pos) (wAndV Ta Tb) where
  mono := fun σ x Q Q' E E' i j q => ha.mono _ _ _ _ _ _ (fun e σ x ⟨b, e1, q⟩ => ⟨b, e1, by
    cases b with
    | true => exact hb.mono _ _ _ _ _ _ i j q
    | false => exact i _ _ _ q⟩) j q
  run := fun X W A tk => by
    refine pe_weak (pe_and (ha.run X W A tk) (hb.run X W A tk)) fun σ H Q q => ?_
    obtain ⟨F, σp, h, s, q⟩ := q
    refine ⟨F, σp, h, s, ha.mono _ _ _ _ _ _ (fun e σ1 h1 ⟨k, e1, q1⟩ F1 H1 v f1 r1 => ?_) (fun _ _ _ z => z) q⟩
    subst e1
    obtain ⟨s1, r1⟩ := r1
    cases r1
    refine ⟨k, rfl, ?_⟩
    cases k with
    | false => exact q1 F1 H1 _ f1 (rsv s1 (.bl _))
    | true => exact ⟨F1, σ1, h1, s1, hb.mono _ _ _ _ _ _ (fun _ _ _ z => CQ.step f1 z) (fun _ _ _ z => z.step f1) q1⟩
theorem je_or (ha : JE S a Ta) (hb : JE S (.BoolOp .Or (b :: rest) pos) Tb) : JE S (.BoolOp .Or (a :: b :: rest) pos) (wOrV Ta Tb) where
  mono := fun σ x Q Q' E E' i j q => ha.mono _ _ _ _ _ _ (fun e σ x ⟨b, e1, q⟩ => ⟨b, e1, by
    cases b with
    | false => exact hb.mono _ _ _ _ _ _ i j q
    | true => exact i _ _ _ q⟩) j q
  run := fun X W A tk => by
    refine pe_weak (pe_or (ha.run X W A tk) (hb.run X W A tk)) fun σ H Q q => ?_
    obtain ⟨F, σp, h, s, q⟩ := q
    refine ⟨F, σp, h, s, ha.mono _ _ _ _ _ _ (fun e σ1 h1 ⟨k, e1, q1⟩ F1 H1 v f1 r1 => ?_) (fun _ _ _ z => z) q⟩
    subst e1
    obtain ⟨s1, r1⟩ := r1
    cases r1
    refine ⟨k, rfl, ?_⟩
    cases k with
    | true => exact q1 F1 H1 _ f1 (rsv s1 (.bl _))
    | false => exact ⟨F1, σ1, h1, s1, hb.mono _ _ _ _ _ _ (fun _ _ _ z => CQ.step f1 z) (fun _ _ _ z => z.step f1) q1⟩
theorem je_not (ha : JE S a Ta) : JE S (.UnaryOp .Not a pos) (wNotV Ta) where
  mono := fun σ x Q Q' E E' i j q => ha.mono _ _ _ _ _ _ (fun e σ x ⟨b, e1, q⟩ => ⟨b, e1, i _ _ _ q⟩) j q
  run := fun X W A tk => by
    refine pe_weak (pe_not (ha.run X W A tk)) fun σ H Q q => ?_
    obtain ⟨F, σp, h, s, q⟩ := q
    refine ⟨F, σp, h, s, ha.mono _ _ _ _ _ _ (fun e σ1 h1 ⟨k, e1, q1⟩ F1 H1 v f1 r1 => ?_) (fun _ _ _ z => z) q⟩
    subst e1
    obtain ⟨s1, r1⟩ := r1
    cases r1
    exact ⟨k, rfl, q1 F1 H1 _ f1 (rsv s1 (.bl _))⟩
def wIf (T : WT) (Ta Tb : WE) : WE := fun σ h Q E => T σ h (fun b σ1 h1 => if b = true then Ta σ1 h1 Q E else Tb σ1 h1 Q E) E
theorem je_if (hc : JT S c U) (ha : JE S a Ta) (hb : JE S b Tb) : JE S (.IfExp c a b pos) (wIf U Ta Tb) where
  mono := fun σ x Q Q' E E' i j q => hc.mono _ _ _ _ _ _ (fun b σ x q => by
    cases b with
    | true => exact ha.mono _ _ _ _ _ _ i j q
    | false => exact hb.mono _ _ _ _ _ _ i j q) j q
  run := fun X W A tk => by
    refine pe_weak (pe_ifExp (hc.run X W A tk) (ha.run X W A tk) (hb.run X W A tk)) fun σ H Q q => ?_
    obtain ⟨F, σp, h, s, q⟩ := q
    refine ⟨F, σp, h, s, hc.mono _ _ _ _ _ _ (fun k σ1 h1 q1 F1 H1 f1 s1 => ?_) (fun _ _ _ z => z) q⟩
    cases k with
    | true => exact ⟨F1, σ1, h1, s1, ha.mono _ _ _ _ _ _ (fun _ _ _ z => CQ.step f1 z) (fun _ _ _ z => z.step f1) q1⟩
    | false => exact ⟨F1, σ1, h1, s1, hb.mono _ _ _ _ _ _ (fun _ _ _ z => CQ.step f1 z) (fun _ _ _ z => z.step f1) q1⟩
/-- -a -/
def wNeg (Ta : WE) : WE := fun σ h Q E => Ta σ h (fun e σ1 h1 => ∃ i, e = .val (.int i) ∧ Q (.val (.int (-i))) σ1 h1) E
theorem je_neg (ha : JE S a Ta) : JE S (.UnaryOp .USub a pos) (wNeg Ta) where
  mono := fun σ x Q Q' E E' i j q => ha.mono _ _ _ _ _ _ (fun e σ x ⟨b, e1, q⟩ => ⟨b, e1, i _ _ _ q⟩) j q
  run := fun X W A tk => by
    refine pe_weak (pe_un un_neg (ha.run X W A tk)) fun σ H Q q => ?_
    obtain ⟨F, σp, h, s, q⟩ := q
    refine ⟨F, σp, h, s, ha.mono _ _ _ _ _ _ (fun e σ1 h1 ⟨k, e1, q1⟩ F1 H1 v f1 r1 => ?_) (fun _ _ _ z => z) q⟩
    subst e1
    obtain ⟨s1, r1⟩ := r1
    cases r1
    exact ⟨k, rfl, q1 F1 H1 _ f1 (rsv s1 (.int _))⟩
end
end PP
set_option Elab.async false
set_option linter.all false
set_option maxRecDepth 100000
set_option maxHeartbeats 4000000
namespace PP
open PySem PySem.Spec PyProof.Rows L2

/-! ### a call that does not see some lists of ours -/
open Classical in
noncomputable def hid (H : Hp) (O : Addr → Prop) : Hp := fun b => if O b then none else H b
open Classical in
noncomputable def mrg (H H' : Hp) (O : Addr → Prop) : Hp := fun b => if O b then H b else H' b
theorem hid_in {H : Hp} {O : Addr → Prop} {b : Addr} (o : O b) : hid H O b = none := by unfold hid; rw [if_pos o]
theorem hid_out {H : Hp} {O : Addr → Prop} {b : Addr} (o : ¬ O b) : hid H O b = H b := by unfold hid; rw [if_neg o]
theorem mrg_in {H H' : Hp} {O : Addr → Prop} {b : Addr} (o : O b) : mrg H H' O b = H b := by unfold mrg; rw [if_pos o]
theorem mrg_out {H H' : Hp} {O : Addr → Prop} {b : Addr} (o : ¬ O b) : mrg H H' O b = H' b := by unfold mrg; rw [if_neg o]
def Plain (H : Hp) (O : Addr → Prop) : Prop := ∀ b, O b → (∃ xs, H b = some (.lst xs)) ∨ ∃ kvs, H b = some (.dK kvs)
section
variable {P : Program} {w : World} {H H' : Hp} {O : Addr → Prop} {h h' B : Heap}
theorem hid_some {b : Addr} {u : HO} (e : hid H O b = some u) : ¬ O b ∧ H b = some u := by
  by_cases o : O b
  · rw [hid_in o] at e; cases e
  · rw [hid_out o] at e; exact ⟨o, e⟩
theorem Plain.no (p : Plain H O) {b : Addr} {u : HO} (e : H b = some u) (n1 : ∀ xs, u ≠ .lst xs) (n2 : ∀ xs, u ≠ .dK xs) : hid H O b = some u := by
  by_cases o : O b
  · rcases p b o with ⟨xs, q⟩ | ⟨xs, q⟩
    · rw [e] at q; cases q; exact absurd rfl (n1 xs)
    · rw [e] at q; cases q; exact absurd rfl (n2 xs)
  · rw [hid_out o]; exact e
theorem hok_hid (p : Plain H O) (k : HOk P w H h) : HOk P w (hid H O) h := fun b u e => by
  obtain ⟨_, e⟩ := hid_some e
  exact (k b u e).stay (fun _ _ _ q => q) (fun c q => p.no q (fun _ z => nomatch z) fun _ z => nomatch z) fun c xs q => p.no q (fun _ z => nomatch z) fun _ z => nomatch z
theorem hok_mrg (p : Plain H O) (k : HOk P w H h) (k' : HOk P w H' B) (no : ∀ b, O b → H' b = none) (kept : ∀ b o, O b → h.get? b = some o → B.get? b = some o) : HOk P w (mrg H H' O) B := fun b u e => by
  by_cases o : O b
  · rw [mrg_in o] at e
    have q := k b u e
    rcases p b o with ⟨xs, z⟩ | ⟨xs, z⟩
    · rw [e] at z; cases z
      obtain ⟨a, its, n, r, g⟩ := q
      exact ⟨a, its, n, r, kept b _ o g⟩
    · rw [e] at z; cases z
      obtain ⟨z, y, vs, r, ob, es, ep, g, c⟩ := q
      exact ⟨z, y, vs, r, ob, es, ep, kept b _ o g, c⟩
  · rw [mrg_out o] at e
    have no' : ∀ c u, H' c = some u → mrg H H' O c = some u := fun c u q => by
      by_cases o : O c
      · rw [no c o] at q; cases q
      · rw [mrg_out o]; exact q
    exact (k' b u e).stay (fun _ _ _ q => q) (fun c q => no' c _ q) fun c xs q => no' c _ q
end
section
variable {X : Cx} {pins : List (Addr × Obj)} {σ : L2.St} {H : Hp} {s : Shared} {O : Addr → Prop} {k : Nat} {f : Addr} {fd : FuncData} {ps : List Str} {sp : Sp} {dvs : List V} {ds : List Value}
theorem env0_hid (p : Plain H O) (e : Env0 X.prog X.w X.K X.mg X.base X.A X.stack s H) : Env0 X.prog X.w X.K X.mg X.base X.A X.stack s (hid H O) where
  frames := e.frames
  mod := e.mod
  bs := fun b o q => ⟨(e.bs b o q).1, by
    cases z : hid H O b with
    | none => rfl
    | some u => have := (hid_some z).2; rw [(e.bs b o q).2] at this; cases this⟩
  bsz := e.bsz
  funs := e.funs
  frf := fun b q => by
    cases z : hid H O b with
    | none => rfl
    | some u => have := (hid_some z).2; rw [e.frf b q] at this; cases this
  hok := hok_hid p e.hok
  bare := e.bare
/-- a call run over the hidden heap -/
theorem run_hid {Q : VK} {W : WX} {us : List Value} {vs : List V} (F : FnOk X.prog X.w X.K X.mg X.base (L2.CX X.prog X.w) k f fd ps sp) (hr : Room k X.A) (hb : Binds X.K fd ps ds) (hd : Vals dvs ds) (tk : Takes X W) (pl : Plain H O)
    (I : Inv X pins σ H s) (r : Vals vs us) (h : sp (vs ++ dvs) (hid H O) (fun v H' => (∀ b, O b → H' b = none) → Q v (mrg H H' O)) (fun cls d H' => (∀ b, O b → H' b = none) → W cls d σ (mrg H H' O))) : wpAny (model X.prog X.w) X.A (call (.ref f) us) (EP X pins σ Q) X.xe s := by
  have r2 : Vals (vs ++ dvs) (us ++ ds) := r.append hd
  have hl : (us ++ ds).length = ps.length := by rw [← r2.length]; exact F.len _ _ _ _ h
  have there : ∀ b, O b → ∃ o, s.heap.get? b = some o := fun b o => by
    rcases pl b o with ⟨xs, q⟩ | ⟨xs, q⟩
    · obtain ⟨_, _, _, _, g⟩ := I.hok b _ q; exact ⟨_, g⟩
    · obtain ⟨_, _, _, _, o, _, _, g, _⟩ := I.hok b _ q; exact ⟨_, g⟩
  have nf : ∀ b, O b → b ∉ frs X.stack := fun b o z => by
    have := I.stkFree b z
    rcases pl b o with ⟨xs, q⟩ | ⟨xs, q⟩ <;> (rw [q] at this; cases this)
  have nH : ∀ b, H b = none → ¬ O b := fun b n o => by
    rcases pl b o with ⟨xs, q⟩ | ⟨xs, q⟩ <;> (rw [q] at n; cases n)
  have h0 : ∀ b, H b = none → hid H O b = none := fun b n => by rw [hid_out (nH b n)]; exact n
  refine wpAny_call (codeAny_mono (F.run X.A X.stack s (hid H O) ⟨us, []⟩ (us ++ ds) (vs ++ dvs) _ _ hr (env0_hid pl I.env0) (hb s us I.kIn hl) r2 h) fun r s' hq => ?_)
  cases r with
  | error e =>
    obtain ⟨a, B, H', cls, d, rfl, fl, hok, ub, na, os, ag, hE⟩ := hq
    have no : ∀ b, O b → H' b = none := fun b o => let ⟨u, q⟩ := there b o; ub.free b u q (hid_in o)
    have aO : ¬ O a := fun o => by
      obtain ⟨u, q⟩ := there a o
      have q2 := ub.keep a u q (hid_in o) (nf a o)
      have z : B.get? a = none := fl.2.1
      rw [q2] at z; cases z
    refine tk (.ref a) s' (XE.of_call (E := fun c d H => W c d σ H) I (fun _ _ _ z => z) ⟨a, B, mrg H H' O, cls, d, rfl, fl, hok_mrg pl I.hok hok no (fun b o x q => ub.keep b o q (hid_in x) (nf b x)), ⟨fun b o e n hb => ub.keep b o e (h0 b n) hb, ub.slot, fun b o e n => ?_, ub.there, fun b xs e => ?_, fun b o xs e => ?_, fun b ps e => ?_⟩, by rw [mrg_out aO]; exact na, os, ag, hE no⟩)
    · rw [mrg_out (nH b n)]; exact ub.free b o e (h0 b n)
    · have z := pl.no e (fun _ z => nomatch z) fun _ z => nomatch z
      rw [mrg_out (hid_some z).1]; exact ub.tups b xs z
    · have z := pl.no e (fun _ z => nomatch z) fun _ z => nomatch z
      rw [mrg_out (hid_some z).1]; exact ub.frzs b o xs z
    · have z := pl.no e (fun _ z => nomatch z) fun _ z => nomatch z
      rw [mrg_out (hid_some z).1]; exact ub.tbls b ps z
  | ok fl =>
    cases fl with
    | ret u =>
      obtain ⟨v, H', os, bare, un, hok, r, q⟩ := hq
      have no : ∀ b, O b → H' b = none := fun b o => let ⟨u, q⟩ := there b o; un.free b u q (hid_in o) (by simp)
      refine I.after ⟨v, mrg H H' O, os, bare, ⟨fun b o e n hb hx => un.keep b o e (h0 b n) hb hx, fun b o e n hb hx => un.slot b o e (h0 b n) hb hx, fun b o e n hx => ?_, un.there, fun b xs e => ?_, fun b o xs e => ?_, fun b ps e => ?_⟩, hok_mrg pl I.hok hok no (fun b o x q => un.keep b o q (hid_in x) (nf b x) (by simp)), r, q no⟩
      · rw [mrg_out (nH b n)]; exact un.free b o e (h0 b n) hx
      · have z := pl.no e (fun _ z => nomatch z) fun _ z => nomatch z
        rw [mrg_out (hid_some z).1]; exact un.tups b xs z
      · have z := pl.no e (fun _ z => nomatch z) fun _ z => nomatch z
        rw [mrg_out (hid_some z).1]; exact un.frzs b o xs z
      · have z := pl.no e (fun _ z => nomatch z) fun _ z => nomatch z
        rw [mrg_out (hid_some z).1]; exact un.tbls b ps z
    | next => exact False.elim hq
    | brk => exact False.elim hq
    | cont => exact False.elim hq
end

/-! ### argument lists, sharing -/
def wNil : WA := fun σ h Q _ => Q [] σ h
def wCons (T : WE) (U : WA) : WA := fun σ h Q E => T σ h (fun e σ1 h1 => U σ1 h1 (fun es σ2 h2 => Q (pend e :: es) σ2 h2) E) E
section
variable {S : Sc} {e : Expr} {es : List Expr} {T : WE} {U : WA} {pos : Pos}
theorem ja_nil : JA S [] wNil where
  mono := fun σ h Q Q' E E' i j q => i _ _ _ q
  run := fun X W A tk => pa_weak pa_nil fun σ H Q ⟨F, σp, h, s, q⟩ => q F H [] .refl s .nil
theorem ja_cons (ha : JE S e T) (hr : JA S es U) (hs : ∀ env, starEach (e :: es) env = (false, eval e env) :: starEach es env := by intro _; rfl) : JA S (e :: es) (wCons T U) where
  mono := fun σ h Q Q' E E' i j q => ha.mono _ _ _ _ _ _ (fun x σ h q => hr.mono _ _ _ _ _ _ (fun y σ h q => i _ _ _ q) j q) j q
  run := fun X W A tk => by
    refine pa_weak (pa_cons (ha.run X W A tk) (hr.run X W A tk) (hs X.env)) fun σ H Q q => ?_
    obtain ⟨F, σp, h, s, q⟩ := q
    refine ⟨F, σp, h, s, ha.mono _ _ _ _ _ _ (fun ea σ1 h1 q1 F1 H1 x f1 r1 => ?_) (fun _ _ _ z => z) q⟩
    refine ⟨F1, σ1, h1, r1.sm, hr.mono _ _ _ _ _ _ (fun eb σ2 h2 q2 F2 H2 y f2 s2 r2 => ?_) (fun x σ' h' z => z.step f1) q1⟩
    exact q2 F2 H2 _ (f1.trans f2) s2 (.cons (r1.re.keep f2.keep) r2)
end
/-- a value that goes elsewhere: a list of a name is given away, for reading (it stands as a value from then on) or for writing (it stands in the heap) -/
def shareB (i : Nat) (σ : PSt) (h : PH) (Q : PV → PSt → PH → Prop) : Prop := match σ[i]? with
  | some (some (.val p)) => Q p σ h
  | some (some (.own o)) => Q o.pv (σ.set i (some (.val o.pv))) h ∨ ∀ p, h p = none → Q (.ref p) (σ.set i (some (.val (.ref p)))) (updP h p o)
  | _ => False
def share : EV → PSt → PH → (PV → PSt → PH → Prop) → Prop
  | .val p, σ, h, Q => Q p σ h
  | .own o, σ, h, Q => Q o.pv σ h
  | .bor i, σ, h, Q => shareB i σ h Q
def shareL : List EV → PSt → PH → (List PV → PSt → PH → Prop) → Prop
  | [], σ, h, Q => Q [] σ h
  | e :: es, σ, h, Q => share e σ h fun p σ1 h1 => shareL es σ1 h1 fun ps σ2 h2 => Q (p :: ps) σ2 h2
theorem share_mono {e : EV} : ∀ {σ : PSt} {h : PH} {Q Q' : PV → PSt → PH → Prop}, (∀ p σ h, Q p σ h → Q' p σ h) → share e σ h Q → share e σ h Q' := fun {σ h Q Q'} i q => by
  cases e with
  | val p => exact i _ _ _ q
  | own p => exact i _ _ _ q
  | bor k =>
    have q : shareB k σ h Q := q
    show shareB k σ h Q'
    unfold shareB at q ⊢
    split at q
    · exact i _ _ _ q
    · exact q.elim (fun z => .inl (i _ _ _ z)) fun z => .inr fun p n => i _ _ _ (z p n)
    · exact q.elim
theorem shareL_mono : ∀ {es : List EV} {σ : PSt} {h : PH} {Q Q' : List PV → PSt → PH → Prop}, (∀ p σ h, Q p σ h → Q' p σ h) → shareL es σ h Q → shareL es σ h Q'
  | [], σ, h, Q, Q', i, q => i _ _ _ q
  | e :: es, σ, h, Q, Q', i, q => share_mono (fun p σ h z => shareL_mono (fun ps σ h w => i _ _ _ w) z) q
section
variable {K : PySem.W.Frag} {F : Ft} {σ : L2.St} {H : Hp} {σp : PSt} {h : PH}
/-- without the address a -/
def Ft.but (F : Ft) (a : Addr) : Ft := ⟨fun b => F b ∧ b ≠ a, F.z, F.b⟩
/-- a name's list becomes a value -/
theorem Sm.freeze (S : Sm K H F σp h σ) {i : Nat} {o : PO} {a : Addr} (e : σp[i]? = some (some (.own o))) (ea : σ[i]? = some (some (.ref a))) :
    Sm K H (F.but a) (σp.set i (some (.val o.pv))) h σ ∧ Rp K H (F.but a) o.pv (.ref a) ∧ Keep F H (F.but a) H := by
  have kp : Keep F H (F.but a) H := fun b u q n => ⟨q, fun z => n z.1⟩
  obtain ⟨a', ea', ⟨u, eu, c⟩, f, n, z, nz, nb⟩ := S.own i o e
  rw [ea] at ea'; cases ea'
  have hi : i < σp.length := (List.getElem?_eq_some_iff.mp e).1
  have r : Rp K H (F.but a) o.pv (.ref a) := .ofPv z eu (fun q => q.2 rfl) (c.keep kp)
  refine ⟨⟨fun j p q => ?_, fun j o' q => ?_, fun j l o' o'' b q1 q2 q3 q4 => ?_, fun b o' q => ?_, by simpa using S.len, fun b q => S.fin b q.1, fun b q => ?_, S.bt⟩, r, kp⟩
  · by_cases hj : i = j
    · subst hj
      rw [List.getElem?_set_self hi] at q; cases q
      exact ⟨_, ea, r⟩
    · rw [List.getElem?_set_ne hj] at q
      obtain ⟨v, q1, q2⟩ := S.val j p q
      exact ⟨v, q1, q2.keep kp⟩
  · by_cases hj : i = j
    · subst hj; rw [List.getElem?_set_self hi] at q; cases q
    · rw [List.getElem?_set_ne hj] at q
      obtain ⟨b, q1, q2, q3, q4, q5, q6⟩ := S.own j o' q
      refine ⟨b, q1, q2.keep kp (fun _ z => z), ⟨q3, ?_⟩, q4, q5, q6⟩
      rintro rfl
      exact hj (S.sep i j o o' b e q ea q1)
  · by_cases hj : i = j
    · subst hj; rw [List.getElem?_set_self hi] at q1; cases q1
    · by_cases hl : i = l
      · subst hl; rw [List.getElem?_set_self hi] at q2; cases q2
      · rw [List.getElem?_set_ne hj] at q1; rw [List.getElem?_set_ne hl] at q2
        exact S.sep j l o' o'' b q1 q2 q3 q4
  · obtain ⟨q1, q2, q3⟩ := S.hp b o' q
    refine ⟨q1.keep kp (fun _ z => z), ⟨q2, ?_⟩, q3⟩
    rintro rfl
    rw [n] at q; cases q
  · obtain ⟨q1, q2⟩ := S.zf b q
    exact ⟨⟨q1, fun w => nz (by rw [← w]; exact q)⟩, q2⟩
/-- a name's list goes into the heap -/
theorem Sm.lay (S : Sm K H F σp h σ) {i : Nat} {o : PO} {a : Addr} (e : σp[i]? = some (some (.own o))) (ea : σ[i]? = some (some (.ref a))) : h a = none ∧ Sm K H F (σp.set i (some (.val (.ref a)))) (updP h a o) σ := by
  obtain ⟨a', ea', r, f, n, z, nz, nb⟩ := S.own i o e
  rw [ea] at ea'; cases ea'
  have hi : i < σp.length := (List.getElem?_eq_some_iff.mp e).1
  refine ⟨n, ⟨fun j p q => ?_, fun j o' q => ?_, fun j l o' o'' b q1 q2 q3 q4 => ?_, fun b o' q => ?_, by simpa using S.len, S.fin, S.zf, S.bt⟩⟩
  · by_cases hj : i = j
    · subst hj
      rw [List.getElem?_set_self hi] at q; cases q
      exact ⟨_, ea, .ref a⟩
    · rw [List.getElem?_set_ne hj] at q
      exact S.val j p q
  · by_cases hj : i = j
    · subst hj; rw [List.getElem?_set_self hi] at q; cases q
    · rw [List.getElem?_set_ne hj] at q
      obtain ⟨b, q1, q2, q3, q4, q5⟩ := S.own j o' q
      refine ⟨b, q1, q2, q3, ?_, q5⟩
      rw [updP_ne]
      · exact q4
      · rintro rfl
        exact hj (S.sep i j o o' b e q ea q1)
  · by_cases hj : i = j
    · subst hj; rw [List.getElem?_set_self hi] at q1; cases q1
    · by_cases hl : i = l
      · subst hl; rw [List.getElem?_set_self hi] at q2; cases q2
      · rw [List.getElem?_set_ne hj] at q1; rw [List.getElem?_set_ne hl] at q2
        exact S.sep j l o' o'' b q1 q2 q3 q4
  · by_cases hb : b = a
    · subst hb; rw [updP_same] at q; cases q; exact ⟨r, f, nz⟩
    · rw [updP_ne hb] at q; exact S.hp b o' q
theorem share_ok {e : EV} {v : V} {Q : PV → PSt → PH → Prop} (S : Sm K H F σp h σ) (r : RE K F σ H e v) (q : share e σp h Q) : ∃ F' p σ' h', Sm K H F' σ' h' σ ∧ Rp K H F' p v ∧ Q p σ' h' ∧ Keep F H F' H ∧ Fr F H F' H := by
  cases e with
  | val p => exact ⟨F, p, σp, h, S, r, q, fun _ _ a b => ⟨a, b⟩, .refl⟩
  | own p => exact r.elim
  | bor i =>
    have ri : σ[i]? = some (some v) := r
    have q : shareB i σp h Q := q
    unfold shareB at q
    split at q
    · rename_i p e
      obtain ⟨w', a, b⟩ := S.val i p e
      rw [ri] at a; cases a
      exact ⟨F, p, σp, h, S, b, q, fun _ _ a b => ⟨a, b⟩, .refl⟩
    · rename_i o e
      obtain ⟨a, ea, _⟩ := S.own i o e
      rw [ri] at ea; cases ea
      rcases q with q | q
      · obtain ⟨s', r', k⟩ := S.freeze e ri
        exact ⟨_, _, _, _, s', r', q, k, ⟨rfl, rfl, fun _ _ z _ => z, fun b z => .inl z.1, fun _ z => z⟩⟩
      · obtain ⟨n, s'⟩ := S.lay e ri
        exact ⟨_, _, _, _, s', .ref a, q a n, fun _ _ a b => ⟨a, b⟩, .refl⟩
    · exact q.elim
theorem shareL_ok : ∀ {es : List EV} {vs : List V} {F : Ft} {σp : PSt} {h : PH} {Q : List PV → PSt → PH → Prop}, Sm K H F σp h σ → REL K F σ H es vs → shareL es σp h Q → ∃ F' ps σ' h', Sm K H F' σ' h' σ ∧ RpL K H F' ps vs ∧ Q ps σ' h' ∧ Fr F H F' H
  | [], _, F, σp, h, Q, S, .nil, q => ⟨F, [], σp, h, S, .nil, q, .refl⟩
  | e :: es, _, F, σp, h, Q, S, .cons r rr, q => by
    obtain ⟨F1, p, σ1, h1, s1, r1, q1, k1, f1⟩ := share_ok S r q
    obtain ⟨F2, ps, σ2, h2, s2, r2, q2, f2⟩ := shareL_ok s1 (rr.keep k1) q1
    exact ⟨F2, p :: ps, σ2, h2, s2, .cons (r1.keep f2.keep) r2, q2, f1.trans f2⟩
end

/-! ### displays -/
def wTup (U : WA) : WE := fun σ h Q E => U σ h (fun es σ1 h1 => shareL es σ1 h1 fun ps σ2 h2 => ps.length ≤ sizeLine ∧ Q (.val (.tup ps)) σ2 h2) E
def wLst (U : WA) : WE := fun σ h Q E => U σ h (fun es σ1 h1 => shareL es σ1 h1 fun ps σ2 h2 => ps.length ≤ sizeLine ∧ Q (.own (.lst ps)) σ2 h2) E
section
variable {S : Sc} {es : List Expr} {U : WA} {pos : Pos}
theorem je_tup {n : Nat} (ha : JA S es U) : JE S (.Tuple es n pos) (wTup U) where
  mono := fun σ h Q Q' E E' i j q => ha.mono _ _ _ _ _ _ (fun x σ h q => shareL_mono (fun ps σ h z => ⟨z.1, i _ _ _ z.2⟩) q) j q
  run := fun X W A tk => by
    refine pe_weak (pe_tup (ha.run X W A tk)) fun σ H Q q => ?_
    obtain ⟨F, σp, h, s, q⟩ := q
    refine ⟨F, σp, h, s, ha.mono _ _ _ _ _ _ (fun es σ1 h1 q1 F1 H1 vs f1 s1 r1 => ?_) (fun _ _ _ z => z) q⟩
    obtain ⟨F2, ps, σ2, h2, s2, r2, ⟨z, q2⟩, f2⟩ := shareL_ok s1 r1 q1
    refine ⟨by rw [← r2.length]; exact z, fun p n => ?_⟩
    exact q2 F2 _ _ ((f1.trans f2).trans (.new n)) (rsv (s2.new n) (Rp.newTup s2 n r2))
theorem je_lst (ha : JA S es U) : JE S (.List es pos) (wLst U) where
  mono := fun σ h Q Q' E E' i j q => ha.mono _ _ _ _ _ _ (fun x σ h q => shareL_mono (fun ps σ h z => ⟨z.1, i _ _ _ z.2⟩) q) j q
  run := fun X W A tk => by
    refine pe_weak (pe_lst (ha.run X W A tk)) fun σ H Q q => ?_
    obtain ⟨F, σp, h, s, q⟩ := q
    refine ⟨F, σp, h, s, ha.mono _ _ _ _ _ _ (fun es σ1 h1 q1 F1 H1 vs f1 s1 r1 => ?_) (fun _ _ _ z => z) q⟩
    obtain ⟨F2, ps, σ2, h2, s2, r2, ⟨z, q2⟩, f2⟩ := shareL_ok s1 r1 q1
    refine ⟨by rw [← r2.length]; exact z, fun p n => ?_⟩
    exact q2 F2 _ _ ((f1.trans f2).trans (.new n)) ((RS.new (o := .lst ps) s2 n ⟨_, rfl, r2⟩ rfl).early (f1.trans f2).dm)
end

/-! ### calls of built-ins, by views -/
inductive RTL (K : PySem.W.Frag) (H : Hp) (F : Addr → Prop) : List PV → List V → Prop
  | nil : RTL K H F [] []
  | cons {p : PV} {v : V} {ps : List PV} {vs : List V} : RT K H F p v → RTL K H F ps vs → RTL K H F (p :: ps) (v :: vs)
abbrev P1 := List PV → (EV → Prop) → Prop
structure CallS (S : Sc) (f : Value) (g : P1) : Prop where
  run : ∀ X, At S X → ∃ r, CallR X f r ∧ ∀ F σp h σ H ps vs Q, Sm X.K H F σp h σ → RTL X.K H F ps vs → g ps Q →
    ∀ QV : VK, (∀ F' H' ez z, Fr F H F' H' → RS X.K H F' σp h σ H' ez z → Q ez → QV z H') → r vs H QV
  mono : ∀ x Q Q', (∀ e, Q e → Q' e) → g x Q → g x Q'
end PP
set_option Elab.async false
set_option linter.all false
set_option maxRecDepth 100000
set_option maxHeartbeats 4000000
namespace PP
open PySem PySem.Spec PyProof.Rows L2

/-! ### the library's walks over a tuple of ints -/
section
variable {prog : Program} {w : World} {A : Around} {E : Value → Shared → Prop} {s : Shared} {l : Addr} {its : List Value} {ns : List Int}
theorem iter_intTup {xs : Array (Int × Tok)} {Q : Value → Shared → Prop} (hl : s.heap.IsTuple l (intItems xs))
    (h : ∀ s₂ : Shared, s₂ = { s with heap := s.heap.push { cls := .type "tuple_iterator", data := .fields #[.ref l, .int 0 0] } } →
      (s₂.heap.IsTupleIter s.heap.objs.size l 0 ∧ s₂.heap.IsTuple l (intItems xs)) → (∀ b ∈ [s.heap.objs.size, l], b < s₂.heap.objs.size) → l ≠ s.heap.objs.size → Q (.ref s.heap.objs.size) s₂) :
    wpAny (model prog w) A (pyIter (.ref l)) Q E s := by
  have hlt : l < s.heap.objs.size := by obtain ⟨_, e, _⟩ := hl; exact Heap.lt_size e
  refine wpAny_pyIter_tuple hl (h _ rfl ⟨⟨_, Heap.get?_push_size _ rfl, rfl, rfl⟩, ?_⟩ (fun b hb => ?_) (Nat.ne_of_lt hlt))
  · obtain ⟨o, e, r⟩ := hl
    exact ⟨o, Heap.get?_push_of_some _ e, r⟩
  · show b < (s.heap.push _).objs.size
    rw [Heap.size_push]
    rcases List.mem_cons.mp hb with rfl | hb
    · exact Nat.lt_succ_self _
    · rcases List.mem_cons.mp hb with rfl | hb
      · exact Nat.lt_succ_of_lt hlt
      · cases hb
theorem old_keptT {h' : Heap} (hk : ∀ b o, b ∉ [s.heap.objs.size] → (s.heap.push { cls := .type "tuple_iterator", data := .fields #[.ref l, .int 0 0] }).get? b = some o → h'.get? b = some o) :
    ∀ b o, s.heap.get? b = some o → h'.get? b = some o := fun b o e => hk b o (fun z => by
      have z : b = s.heap.objs.size := by simpa using z
      exact absurd (Heap.lt_size e) (by rw [z]; exact Nat.lt_irrefl _)) (Heap.get?_push_of_some _ e)
theorem sum_rawT {Q : Value → Shared → Prop} (hh : A.handled = none) (hl : s.heap.IsTuple l its.toArray) (hi : IntsAre its ns)
    (h : ∀ h' tk t', (∀ b o, s.heap.get? b = some o → h'.get? b = some o) → Q (.int ns.sum t') { s with heap := h', toks := tk }) : wpAny (model prog w) A (call (.builtin "sum") [.ref l]) Q E s := by
  obtain ⟨xs, e⟩ := hi.allInts.items
  have hn : numsOf (intItems xs).toList = ns := by rw [← e]; exact hi.numsOf
  rw [nums_intItems] at hn
  rw [e] at hl
  refine call_sum_walkG (iter_intTup hl fun s₂ e st hfp hlI => ?_)
  subst e
  refine ⟨_, _, _, _, _, _, numAt xs, rfl, Walks.tuple (A := A.in1) hh _ l hlI (intItems xs), st, hfp, (fun _ _ => intItems_at), fun h' tk t' hk => ?_⟩
  have := h h' tk t' (old_keptT hk)
  have e2 : preSum (numAt xs) (intItems xs).size = ns.sum := by
    rw [show (intItems xs).size = xs.size by simp [intItems], preSum_eq, List.take_of_length_le (by simp), hn]
  rw [e2]; exact this
theorem max_rawT {Q : Value → Shared → Prop} (hh : A.handled = none) (hl : s.heap.IsTuple l its.toArray) (hi : IntsAre its ns) (hne : 0 < ns.length)
    (h : ∀ h' tk M t', (∀ b o, s.heap.get? b = some o → h'.get? b = some o) → M ∈ ns → (∀ a, a ∈ ns → a ≤ M) → Q (.int M t') { s with heap := h', toks := tk }) : wpAny (model prog w) A (call (.builtin "max") [.ref l]) Q E s := by
  obtain ⟨xs, e⟩ := hi.allInts.items
  have hn : numsOf (intItems xs).toList = ns := by rw [← e]; exact hi.numsOf
  rw [nums_intItems] at hn
  subst hn
  rw [e] at hl
  have hsz : 0 < xs.size := by simpa using hne
  refine call_max_walk (iter_intTup hl fun s₂ e st hfp hlI => ?_)
  subst e
  refine ⟨_, _, _, _, _, _, _, rfl, Walks.tuple (A := A.in1) hh _ l hlI (intItems xs), st, hfp, by simpa [intItems] using hsz, CmpOf.ints_gt (numAt xs) (fun _ _ => intItems_at), fun v h' tk hP hk => ?_⟩
  have hP : (intItems xs)[argBest (fun i j => decide (numAt xs i > numAt xs j)) (xs.size - 1)]? = some v := by simpa [intItems] using hP
  obtain ⟨t, rfl⟩ := intItems_at hP
  obtain ⟨h1, h2⟩ := argBest_gt (numAt xs) (xs.size - 1)
  refine h h' tk _ t (old_keptT hk) ?_ fun a ha => ?_
  · rw [numAt_eq]; exact PySem.getD_mem (by rw [List.length_map, Array.length_toList]; omega)
  · obtain ⟨j, hj, rfl⟩ := mem_getD ha
    rw [List.length_map, Array.length_toList] at hj
    rw [← numAt_eq]; exact h2 j (by omega)
theorem min_rawT {Q : Value → Shared → Prop} (hh : A.handled = none) (hl : s.heap.IsTuple l its.toArray) (hi : IntsAre its ns) (hne : 0 < ns.length)
    (h : ∀ h' tk M t', (∀ b o, s.heap.get? b = some o → h'.get? b = some o) → M ∈ ns → (∀ a, a ∈ ns → M ≤ a) → Q (.int M t') { s with heap := h', toks := tk }) : wpAny (model prog w) A (call (.builtin "min") [.ref l]) Q E s := by
  obtain ⟨xs, e⟩ := hi.allInts.items
  have hn : numsOf (intItems xs).toList = ns := by rw [← e]; exact hi.numsOf
  rw [nums_intItems] at hn
  subst hn
  rw [e] at hl
  have hsz : 0 < xs.size := by simpa using hne
  refine call_min_walk (iter_intTup hl fun s₂ e st hfp hlI => ?_)
  subst e
  refine ⟨_, _, _, _, _, _, _, rfl, Walks.tuple (A := A.in1) hh _ l hlI (intItems xs), st, hfp, by simpa [intItems] using hsz, CmpOf.ints_lt (numAt xs) (fun _ _ => intItems_at), fun v h' tk hP hk => ?_⟩
  have hP : (intItems xs)[argBest (fun i j => decide (numAt xs i < numAt xs j)) (xs.size - 1)]? = some v := by simpa [intItems] using hP
  obtain ⟨t, rfl⟩ := intItems_at hP
  obtain ⟨h1, h2⟩ := argBest_lt (numAt xs) (xs.size - 1)
  refine h h' tk _ t (old_keptT hk) ?_ fun a ha => ?_
  · rw [numAt_eq]; exact PySem.getD_mem (by rw [List.length_map, Array.length_toList]; omega)
  · obtain ⟨j, hj, rfl⟩ := mem_getD ha
    rw [List.length_map, Array.length_toList] at hj
    rw [← numAt_eq]; exact h2 j (by omega)
end
section
variable {X : Cx}
theorem cr_sumT (hc : X.calm = true) : CallR X (.builtin "sum") (fun vs H Q => ∃ (a : Addr) (ns : List Int), vs = [V.ref a] ∧ SqT X.K H a (ns.map V.int) ∧ Q (.int ns.sum) H) := by
  intro pins s σ H vs us Q I r h
  obtain ⟨a, ns, rfl, hs, q⟩ := h
  obtain ⟨its, rv, hl, _⟩ := I.tuple hs
  rw [Vals.ref1 r]
  exact sum_rawT (I.ok.hd hc) hl rv.ints fun h' tk t' hk => ⟨.int _, H, I.kept hk, ⟨_, rfl⟩, q⟩
theorem cr_maxT (hc : X.calm = true) : CallR X (.builtin "max") (fun vs H Q => ∃ (a : Addr) (ns : List Int), vs = [V.ref a] ∧ SqT X.K H a (ns.map V.int) ∧ 0 < ns.length ∧ ∀ m, m ∈ ns → (∀ y, y ∈ ns → y ≤ m) → Q (.int m) H) := by
  intro pins s σ H vs us Q I r h
  obtain ⟨a, ns, rfl, hs, hne, q⟩ := h
  obtain ⟨its, rv, hl, _⟩ := I.tuple hs
  rw [Vals.ref1 r]
  exact max_rawT (I.ok.hd hc) hl rv.ints hne fun h' tk m t' hk h1 h2 => ⟨.int _, H, I.kept hk, ⟨_, rfl⟩, q m h1 h2⟩
theorem cr_minT (hc : X.calm = true) : CallR X (.builtin "min") (fun vs H Q => ∃ (a : Addr) (ns : List Int), vs = [V.ref a] ∧ SqT X.K H a (ns.map V.int) ∧ 0 < ns.length ∧ ∀ m, m ∈ ns → (∀ y, y ∈ ns → m ≤ y) → Q (.int m) H) := by
  intro pins s σ H vs us Q I r h
  obtain ⟨a, ns, rfl, hs, hne, q⟩ := h
  obtain ⟨its, rv, hl, _⟩ := I.tuple hs
  rw [Vals.ref1 r]
  exact min_rawT (I.ok.hd hc) hl rv.ints hne fun h' tk m t' hk h1 h2 => ⟨.int _, H, I.kept hk, ⟨_, rfl⟩, q m h1 h2⟩
end

/-! ### views of arguments -/
section
variable {K : PySem.W.Frag} {mg : Str → Option Value} {F F1 : Ft} {σ : L2.St} {H H1 : Hp} {σp : PSt} {h : PH}
theorem REL.rt (S : Sm K H F σp h σ) : ∀ {es : List EV} {vs : List V}, REL K F σ H es vs → RTL K H F (es.map (vw σp h)) vs
  | _, _, .nil => .nil
  | _, _, .cons a b => .cons (a.rt S) (REL.rt S b)
end
section
variable {K : PySem.W.Frag} {H : Hp} {F : Addr → Prop}
def intL : List PV → Option (List Int)
  | [] => some []
  | .int i :: xs => (intL xs).map (i :: ·)
  | _ => none
def blL : List PV → Option (List Bool)
  | [] => some []
  | .bl i :: xs => (blL xs).map (i :: ·)
  | _ => none
theorem RpL.ints : ∀ {ps : List PV} {vs : List V} {ns : List Int}, RpL K H F ps vs → intL ps = some ns → vs = ns.map V.int
  | _, _, _, .nil, e => by rw [intL] at e; cases e; rfl
  | _, _, ns, @RpL.cons _ _ _ p v ps vs a b, e => by
    cases a with
    | int i =>
      rw [intL] at e
      cases h : intL ps with
      | none => rw [h] at e; cases e
      | some ms => rw [h] at e; cases e; rw [List.map_cons, RpL.ints b h]
    | _ => rw [intL] at e <;> first | cases e | (intro _ z; cases z)
theorem RpL.bls : ∀ {ps : List PV} {vs : List V} {ns : List Bool}, RpL K H F ps vs → blL ps = some ns → vs = ns.map V.bl
  | _, _, _, .nil, e => by rw [blL] at e; cases e; rfl
  | _, _, ns, @RpL.cons _ _ _ p v ps vs a b, e => by
    cases a with
    | bl i =>
      rw [blL] at e
      cases h : blL ps with
      | none => rw [h] at e; cases e
      | some ms => rw [h] at e; cases e; rw [List.map_cons, RpL.bls b h]
    | _ => rw [blL] at e <;> first | cases e | (intro _ z; cases z)
theorem intL_map (ns : List Int) : intL (ns.map PV.int) = some ns := by
  induction ns with
  | nil => rfl
  | cons n r ih => rw [List.map_cons, intL, ih]; rfl
theorem blL_map (ns : List Bool) : blL (ns.map PV.bl) = some ns := by
  induction ns with
  | nil => rfl
  | cons n r ih => rw [List.map_cons, blL, ih]; rfl
theorem RpL.ofInts (ns : List Int) : RpL K H F (ns.map PV.int) (ns.map V.int) := by
  induction ns with
  | nil => exact .nil
  | cons n r ih => exact .cons (.int n) ih
theorem RTL.one {p : PV} {vs : List V} (r : RTL K H F [p] vs) : ∃ v, vs = [v] ∧ RT K H F p v := by
  cases r with
  | cons a b => cases b; exact ⟨_, rfl, a⟩
theorem RTL.two {p q : PV} {vs : List V} (r : RTL K H F [p, q] vs) : ∃ v u, vs = [v, u] ∧ RT K H F p v ∧ RT K H F q u := by
  cases r with
  | cons a b => cases b with
    | cons c d => cases d; exact ⟨_, _, rfl, a, c⟩
end
theorem CallS.or {S : Sc} {f : Value} {g g' : P1} (a : CallS S f g) (b : CallS S f g') : CallS S f (fun x Q => g x Q ∨ g' x Q) where
  run := fun X A => by
    obtain ⟨r, o, q⟩ := a.run X A
    obtain ⟨r', o', q'⟩ := b.run X A
    refine ⟨_, o.or o', fun F σp h σ H ps vs Q s r g QV k => g.elim (fun z => .inl (q _ _ _ _ _ _ _ _ s r z QV k)) fun z => .inr (q' _ _ _ _ _ _ _ _ s r z QV k)⟩
  mono := fun x Q Q' i q => q.elim (fun z => .inl (a.mono _ _ _ i z)) fun z => .inr (b.mono _ _ _ i z)
theorem CallS.to {S : Sc} {f : Value} {g g' : P1} (a : CallS S f g) (m : ∀ x Q Q', (∀ e, Q e → Q' e) → g' x Q → g' x Q') (i : ∀ x Q, g' x Q → g x Q) : CallS S f g' where
  mono := m
  run := fun X A => by
    obtain ⟨r, o, q⟩ := a.run X A
    exact ⟨r, o, fun F σp h σ H px vs Q s r g QV k => q F σp h σ H px vs Q s r (i _ _ g) QV k⟩
def wB (g : P1) (U : WA) : WE := fun σ h Q E => U σ h (fun es σ1 h1 => g (es.map (vw σ1 h1)) (fun r => Q r σ1 h1)) E
theorem wB_mono {g : P1} {U : WA} (mu : Mono U) (mg : ∀ x Q Q', (∀ e, Q e → Q' e) → g x Q → g x Q') : Mono (wB g U) := fun σ h Q Q' E E' i j q => mu _ _ _ _ _ _ (fun x σ h q => mg _ _ _ (fun e z => i _ _ _ z) q) j q
section
variable {S : Sc} {x : Str} {e : Expr} {es : List Expr} {U : WA} {g : P1} {p pos : Pos} {id T : String}
theorem le_B {X : Cx} {r : List V → Hp → VK → Prop} (A : At S X) (mu : Mono U) (k : ∀ F σp h σ H ps vs Q, Sm X.K H F σp h σ → RTL X.K H F ps vs → g ps Q →
    ∀ QV : VK, (∀ F' H' ez z, Fr F H F' H' → RS X.K H F' σp h σ H' ez z → Q ez → QV z H') → r vs H QV) {W : WX} {σ : L2.St} {H : Hp} {Q : VK} (q : LE X.K X.mg (wB g U) W σ H Q) : tCB r (LA X.K X.mg U W) σ H Q := by
  obtain ⟨F, σp, h, s, q⟩ := q
  refine ⟨F, σp, h, s, mu _ _ _ _ _ _ (fun es σ1 h1 q1 F1 H1 vs f1 s1 r1 => ?_) (fun _ _ _ z => z) q⟩
  exact k F1 σ1 h1 σ H1 _ vs _ s1 (r1.rt s1) q1 Q fun F2 H2 ez z f2 r2 q2 => q2 F2 H2 z (f1.trans f2) (r2.early f1.dm)
theorem je_callB (hc : CallS S (.builtin id) g) (hm : S.mg x = none) (hv : bootBuiltins x = some (.builtin id)) (ha : JA S (e :: es) U) (hg : S.sc.names.lookup x = some .globalImplicit := by rfl) (hn : x ≠ "__name__" := by decide) (hdb : (x == ("__debug__" : Str)) = false := by decide)
    (he : ∀ env, starEach (e :: es) env = (false, eval e env) :: starEach es env := by intro _; rfl) (hpl : ∀ env, (backTo pos (starEach es env)).any (·.1) = false := by intro _; rfl) : JE S (.Call (.Name x p) (e :: es) [] pos) (wB g U) where
  mono := wB_mono ha.mono hc.mono
  run := fun X W A tk => by
    obtain ⟨r, o, k⟩ := hc.run X A
    exact pe_weak (pe_callB o (gl_of A hg) (by rw [A.mg]; exact hm) hv (ha.run X W A tk) hn hdb (he _) (hpl _)) fun σ H Q q => le_B A ha.mono k q
theorem je_callTy (hc : CallS S (.type T) g) (hm : S.mg x = none) (hv : bootBuiltins x = some (.type T)) (ha : JA S (e :: es) U) (hg : S.sc.names.lookup x = some .globalImplicit := by rfl) (hn : x ≠ "__name__" := by decide) (hdb : (x == ("__debug__" : Str)) = false := by decide)
    (he : ∀ env, starEach (e :: es) env = (false, eval e env) :: starEach es env := by intro _; rfl) (hpl : ∀ env, (backTo pos (starEach es env)).any (·.1) = false := by intro _; rfl) : JE S (.Call (.Name x p) (e :: es) [] pos) (wB g U) where
  mono := wB_mono ha.mono hc.mono
  run := fun X W A tk => by
    obtain ⟨r, o, k⟩ := hc.run X A
    exact pe_weak (pe_callTy o (gl_of A hg) (by rw [A.mg]; exact hm) hv (ha.run X W A tk) hn hdb (he _) (hpl _)) fun σ H Q q => le_B A ha.mono k q

/-! ### len, int, sum, max, min, tuple, list, any, all, sorted, abs -/
def lenOf : PV → Option Nat
  | .lst xs => some xs.length
  | .rdl xs => some xs.length
  | .tup xs => some xs.length
  | .str y => if y.length ≤ sizeLine then some y.length else none
  | _ => none
def pLen : P1 := fun ps Q => ∃ x n, ps = [x] ∧ lenOf x = some n ∧ Q (.val (.int n))
theorem c_len : CallS S (.builtin "len") pLen where
  mono := fun x Q Q' i ⟨a, b, c, d, q⟩ => ⟨a, b, c, d, i _ q⟩
  run := fun X A => ⟨_, call_len, fun F σp h σ H ps vs Q s rr ⟨x, n, e1, e2, q⟩ QV k => by
    subst e1
    obtain ⟨v, rfl, r⟩ := rr.one
    have fin := k F H _ (.int n) .refl (rsv s (.int _)) q
    cases x with
    | lst xs => obtain ⟨a, vs, rfl, q2, r2⟩ := r.lst; cases e2; exact ⟨_, _, rfl, .inl ⟨vs, .inl (.inl q2), r2.length⟩, fin⟩
    | rdl xs => obtain ⟨a, vs, rfl, q2, r2⟩ := r.rdl; cases e2; exact ⟨_, _, rfl, .inl ⟨vs, q2, r2.length⟩, fin⟩
    | tup xs => obtain ⟨a, vs, rfl, q2, r2⟩ := r.tup; cases e2; exact ⟨_, _, rfl, .inr ⟨vs, q2, r2.length⟩, fin⟩
    | str y =>
      rw [r.str]
      have e2 : (if y.length ≤ sizeLine then some y.length else none) = some n := e2
      split at e2
      · cases e2; exact ⟨_, _, rfl, ⟨by assumption, rfl⟩, fin⟩
      · cases e2
    | _ => cases e2⟩
def pInt : P1 := fun ps Q => match ps with
  | [.int i] => Q (.val (.int i))
  | [.bl b] => Q (.val (.int (if b then 1 else 0)))
  | _ => False
theorem c_int : CallS S (.type "int") pInt where
  mono := fun x Q Q' i q => by unfold pInt at q ⊢; split at q <;> first | exact i _ q | exact q.elim
  run := fun X A => ⟨_, call_int1, fun F σp h σ H ps vs Q s rr q QV k => by
    unfold pInt at q
    split at q
    · obtain ⟨v, rfl, r⟩ := rr.one
      rw [r.int]; exact .inl ⟨_, rfl, k F H _ _ .refl (rsv s (.int _)) q⟩
    · obtain ⟨v, rfl, r⟩ := rr.one
      rw [r.bl]; exact .inr ⟨_, rfl, k F H _ _ .refl (rsv s (.int _)) q⟩
    · exact q.elim⟩
def pAbs : P1 := fun ps Q => ∃ i, ps = [.int i] ∧ Q (.val (.int (if i < 0 then -i else i)))
theorem c_abs : CallS S (.builtin "abs") pAbs where
  mono := fun x Q Q' i ⟨a, b, q⟩ => ⟨a, b, i _ q⟩
  run := fun X A => ⟨_, call_abs, fun F σp h σ H ps vs Q s rr ⟨i, e1, q⟩ QV k => by
    subst e1
    obtain ⟨v, rfl, r⟩ := rr.one
    rw [r.int]; exact ⟨_, rfl, k F H _ _ .refl (rsv s (.int _)) q⟩⟩
/-- the ints of a list or tuple -/
def seqI (p : PV) : Option (List Int) := (seqOf p).bind intL
theorem RT.seqI {K : PySem.W.Frag} {H : Hp} {F : Addr → Prop} {p : PV} {ns : List Int} {v : V} (r : RT K H F p v) (e : PP.seqI p = some ns) : ∃ a, v = .ref a ∧ (SqL K H a (ns.map V.int) ∨ SqT K H a (ns.map V.int)) := by
  unfold PP.seqI at e
  cases h : seqOf p with
  | none => rw [h] at e; cases e
  | some xs =>
    rw [h] at e
    obtain ⟨a, vs, rfl, q, r⟩ := r.seq h
    rw [r.ints e] at q
    exact ⟨a, rfl, q.elim (fun z => .inl z.2) fun z => .inr z.2⟩
def pSum : P1 := fun ps Q => ∃ x ns, ps = [x] ∧ seqI x = some ns ∧ Q (.val (.int ns.sum))
theorem c_sum (hc : S.calm = true) : CallS S (.builtin "sum") pSum where
  mono := fun x Q Q' i ⟨a, b, c, d, q⟩ => ⟨a, b, c, d, i _ q⟩
  run := fun X A => ⟨_, (cr_sum (A.calm hc)).or (cr_sumT (A.calm hc)), fun F σp h σ H ps vs Q s rr ⟨x, ns, e1, e2, q⟩ QV k => by
    subst e1
    obtain ⟨v, rfl, r⟩ := rr.one
    obtain ⟨a, rfl, z⟩ := r.seqI e2
    have fin := k F H _ (.int ns.sum) .refl (rsv s (.int _)) q
    exact z.elim (fun z => .inl ⟨a, ns, rfl, z, fin⟩) fun z => .inr ⟨a, ns, rfl, z, fin⟩⟩
def pMax : P1 := fun ps Q => match ps with
  | [.int i, .int j] => Q (.val (.int (if j > i then j else i)))
  | [x] => ∃ ns, seqI x = some ns ∧ 0 < ns.length ∧ ∀ m, m ∈ ns → (∀ y, y ∈ ns → y ≤ m) → Q (.val (.int m))
  | _ => False
def pMin : P1 := fun ps Q => match ps with
  | [.int i, .int j] => Q (.val (.int (if j < i then j else i)))
  | [x] => ∃ ns, seqI x = some ns ∧ 0 < ns.length ∧ ∀ m, m ∈ ns → (∀ y, y ∈ ns → m ≤ y) → Q (.val (.int m))
  | _ => False
theorem c_max (hc : S.calm = true) : CallS S (.builtin "max") pMax where
  mono := fun x Q Q' i q => by
    unfold pMax at q ⊢
    split at q
    · exact i _ q
    · obtain ⟨ns, a, b, q⟩ := q; exact ⟨ns, a, b, fun m h1 h2 => i _ (q m h1 h2)⟩
    · exact q.elim
  run := fun X A => ⟨_, (call_max2 (A.calm hc)).or ((cr_max (A.calm hc)).or (cr_maxT (A.calm hc))), fun F σp h σ H ps vs Q s rr q QV k => by
    unfold pMax at q
    split at q
    · obtain ⟨v, u, rfl, r1, r2⟩ := rr.two
      rw [r1.int, r2.int]; exact .inl ⟨_, _, rfl, k F H _ _ .refl (rsv s (.int _)) q⟩
    · obtain ⟨v, rfl, r⟩ := rr.one
      obtain ⟨ns, e, l, q⟩ := q
      obtain ⟨a, rfl, z⟩ := r.seqI e
      have fin := fun m h1 h2 => k F H _ (.int m) .refl (rsv s (.int _)) (q m h1 h2)
      exact z.elim (fun z => .inr (.inl ⟨a, ns, rfl, z, l, fin⟩)) fun z => .inr (.inr ⟨a, ns, rfl, z, l, fin⟩)
    · exact q.elim⟩
theorem c_min (hc : S.calm = true) : CallS S (.builtin "min") pMin where
  mono := fun x Q Q' i q => by
    unfold pMin at q ⊢
    split at q
    · exact i _ q
    · obtain ⟨ns, a, b, q⟩ := q; exact ⟨ns, a, b, fun m h1 h2 => i _ (q m h1 h2)⟩
    · exact q.elim
  run := fun X A => ⟨_, (call_min2 (A.calm hc)).or ((cr_min (A.calm hc)).or (cr_minT (A.calm hc))), fun F σp h σ H ps vs Q s rr q QV k => by
    unfold pMin at q
    split at q
    · obtain ⟨v, u, rfl, r1, r2⟩ := rr.two
      rw [r1.int, r2.int]; exact .inl ⟨_, _, rfl, k F H _ _ .refl (rsv s (.int _)) q⟩
    · obtain ⟨v, rfl, r⟩ := rr.one
      obtain ⟨ns, e, l, q⟩ := q
      obtain ⟨a, rfl, z⟩ := r.seqI e
      have fin := fun m h1 h2 => k F H _ (.int m) .refl (rsv s (.int _)) (q m h1 h2)
      exact z.elim (fun z => .inr (.inl ⟨a, ns, rfl, z, l, fin⟩)) fun z => .inr (.inr ⟨a, ns, rfl, z, l, fin⟩)
    · exact q.elim⟩
def pTupC : P1 := fun ps Q => ∃ x xs, ps = [x] ∧ seqOf x = some xs ∧ Q (.val (.tup xs))
theorem c_tuple : CallS S (.type "tuple") pTupC where
  mono := fun x Q Q' i ⟨a, b, c, d, q⟩ => ⟨a, b, c, d, i _ q⟩
  run := fun X A => ⟨_, call_tuple_of, fun F σp h σ H ps vs Q s rr ⟨x, xs, e1, e2, q⟩ QV k => by
    subst e1
    obtain ⟨v, rfl, r⟩ := rr.one
    cases x with
    | tup ys =>
      cases e2
      have t := Rp.tupS r
      obtain ⟨a, vs, rfl, q1, r⟩ := r.tup
      exact ⟨a, vs, rfl, .inr ⟨q1, k F H _ _ .refl (rsv s t) q⟩⟩
    | lst ys =>
      cases e2
      obtain ⟨a, vs, rfl, q1, r⟩ := r.lst
      exact ⟨a, vs, rfl, .inl ⟨.inl (.inl q1), fun p n => k F _ _ _ (.new n) (rsv (s.new n) (Rp.newTup s n r)) q⟩⟩
    | rdl ys =>
      cases e2
      obtain ⟨a, vs, rfl, q1, r⟩ := r.rdl
      exact ⟨a, vs, rfl, .inl ⟨q1, fun p n => k F _ _ _ (.new n) (rsv (s.new n) (Rp.newTup s n r)) q⟩⟩
    | _ => cases e2⟩
def pLstC : P1 := fun ps Q => ∃ x xs, ps = [x] ∧ seqOf x = some xs ∧ Q (.own (.lst xs))
theorem c_list : CallS S (.type "list") pLstC where
  mono := fun x Q Q' i ⟨a, b, c, d, q⟩ => ⟨a, b, c, d, i _ q⟩
  run := fun X A => ⟨_, call_list_of, fun F σp h σ H ps vs Q s rr ⟨x, xs, e1, e2, q⟩ QV k => by
    subst e1
    obtain ⟨v, rfl, r⟩ := rr.one
    obtain ⟨a, vs, rfl, z, r⟩ := r.seq e2
    exact ⟨a, vs, rfl, z.elim (fun z => .inl z.2) (fun z => .inr z.2), fun p n => k F _ _ _ (.new n) (RS.new (o := .lst xs) s n ⟨_, rfl, r⟩ rfl) q⟩⟩
def lstB (p : PV) : Option (List Bool) := match p with
  | .lst xs => blL xs
  | .rdl xs => blL xs
  | _ => none
theorem RT.lstB {K : PySem.W.Frag} {H : Hp} {F : Addr → Prop} {p : PV} {ns : List Bool} {v : V} (r : RT K H F p v) (e : PP.lstB p = some ns) : ∃ a, v = .ref a ∧ SqL K H a (ns.map V.bl) := by
  cases p with
  | lst xs => obtain ⟨a, vs, rfl, q, r⟩ := r.lst; have e : blL xs = some ns := e; rw [r.bls e] at q; exact ⟨a, rfl, .inl (.inl q)⟩
  | rdl xs => obtain ⟨a, vs, rfl, q, r⟩ := r.rdl; have e : blL xs = some ns := e; rw [r.bls e] at q; exact ⟨a, rfl, q⟩
  | _ => cases e
def pAll : P1 := fun ps Q => ∃ x bs, ps = [x] ∧ lstB x = some bs ∧ Q (.val (.bl (bs.all (fun b => b))))
def pAny : P1 := fun ps Q => ∃ x bs, ps = [x] ∧ lstB x = some bs ∧ Q (.val (.bl (bs.any (fun b => b))))
theorem c_all (hc : S.calm = true) : CallS S (.builtin "all") pAll where
  mono := fun x Q Q' i ⟨a, b, c, d, q⟩ => ⟨a, b, c, d, i _ q⟩
  run := fun X A => ⟨_, cr_all (A.calm hc), fun F σp h σ H ps vs Q s rr ⟨x, ns, e1, e2, q⟩ QV k => by
    subst e1
    obtain ⟨v, rfl, r⟩ := rr.one
    obtain ⟨a, rfl, z⟩ := r.lstB e2
    exact ⟨a, ns, rfl, z, k F H _ _ .refl (rsv s (.bl _)) q⟩⟩
theorem c_any (hc : S.calm = true) : CallS S (.builtin "any") pAny where
  mono := fun x Q Q' i ⟨a, b, c, d, q⟩ => ⟨a, b, c, d, i _ q⟩
  run := fun X A => ⟨_, cr_any (A.calm hc), fun F σp h σ H ps vs Q s rr ⟨x, ns, e1, e2, q⟩ QV k => by
    subst e1
    obtain ⟨v, rfl, r⟩ := rr.one
    obtain ⟨a, rfl, z⟩ := r.lstB e2
    exact ⟨a, ns, rfl, z, k F H _ _ .refl (rsv s (.bl _)) q⟩⟩
/-- sorted of a list of ints -/
def pSortI : P1 := fun ps Q => ∃ xs ns, ps = [.lst xs] ∧ intL xs = some ns ∧ ∀ ns' : List Int, ns'.Perm ns → ns'.Pairwise (· ≤ ·) → Q (.own (.lst (ns'.map .int)))
theorem c_sortI : CallS S (.builtin "sorted") pSortI where
  mono := fun x Q Q' i ⟨a, b, c, d, q⟩ => ⟨a, b, c, d, fun n h1 h2 => i _ (q n h1 h2)⟩
  run := fun X A => ⟨_, cr_sortedI, fun F σp h σ H ps vs Q s rr ⟨x, ns, e1, e2, q⟩ QV k => by
    subst e1
    obtain ⟨v, rfl, r⟩ := rr.one
    obtain ⟨a, vs, rfl, z, r⟩ := r.lst
    rw [r.ints e2] at z
    exact ⟨a, ns, rfl, .inl (.inl z), fun ns' p h1 h2 n => k F _ _ _ (.new n) (RS.new (o := .lst (ns'.map .int)) s n ⟨_, rfl, .ofInts ns'⟩ rfl) (q ns' h1 h2)⟩⟩
/-! ### isinstance of a built-in type -/
def tyOf : PV → Option String
  | .non => some "NoneType"
  | .bl _ => some "bool"
  | .int _ => some "int"
  | .str _ => some "str"
  | .tup _ => some "tuple"
  | .lst _ => some "list"
  | .dK _ => some "dict"
  | _ => none
def isTy (a T : String) : Bool := a == T || (a == "bool" && T == "int")
def tyKnown : List String := ["int", "str", "bool", "tuple", "list", "dict"]
def pIsi : P1 := fun ps Q => ∃ x a T, ps = [x, .cst (.ty T)] ∧ tyOf x = some a ∧ tyKnown.contains T = true ∧ Q (.val (.bl (isTy a T)))
theorem kit_tbl {a T : String} (ha : a ∈ ["NoneType", "bool", "int", "str", "tuple", "list", "dict"]) (hT : tyKnown.contains T = true) : kitB a T = some (isTy a T) := by
  have hT : T ∈ tyKnown := by simpa using hT
  have all : ∀ a ∈ ["NoneType", "bool", "int", "str", "tuple", "list", "dict"], ∀ T ∈ tyKnown, kitB a T = some (isTy a T) := by decide +kernel
  exact all a ha T hT
theorem RT.ty {K : PySem.W.Frag} {H : Hp} {F : Addr → Prop} {p : PV} {v : V} {a : String} (r : RT K H F p v) (e : tyOf p = some a) : TyX K H v (.type a) ∧ a ∈ ["NoneType", "bool", "int", "str", "tuple", "list", "dict"] := by
  cases p with
  | non => rw [r.non]; cases e; exact ⟨.base .non, by simp⟩
  | bl i => rw [r.bl]; cases e; exact ⟨.base (.bl i), by simp⟩
  | int i => rw [r.int]; cases e; exact ⟨.base (.int i), by simp⟩
  | str i => rw [r.str]; cases e; exact ⟨.base (.str i), by simp⟩
  | lst xs => obtain ⟨a, vs, rfl, q, r⟩ := r.lst; cases e; exact ⟨.base (.lst q), by simp⟩
  | dK xs => obtain ⟨a, vs, rfl, q, _⟩ := r.dK; cases e; exact ⟨.base (.dK q), by simp⟩
  | tup xs =>
    obtain ⟨a, vs, rfl, q, r⟩ := r.tup
    cases e
    refine ⟨?_, by simp⟩
    rcases q with (q | ⟨o, q⟩) | ⟨o, its, n, q, c, _⟩
    · exact .base (.tup q)
    · exact .fTuple q
    · exact .kTuple q c
  | _ => cases e
theorem c_isi : CallS S (.builtin "isinstance") pIsi where
  mono := fun x Q Q' i ⟨a, b, c, d, e, f, q⟩ => ⟨a, b, c, d, e, f, i _ q⟩
  run := fun X A => ⟨_, call_isi, fun F σp h σ H ps vs Q s rr ⟨x, a, T, e1, e2, e3, q⟩ QV k => by
    subst e1
    obtain ⟨v, u, rfl, r1, r2⟩ := rr.two
    obtain ⟨t1, t2⟩ := r1.ty e2
    rw [r2.cst]
    exact ⟨v, _, _, _, _, rfl, .ty T, t1, kit_ty (kit_tbl t2 e3), k F H _ _ .refl (rsv s (.bl _)) q⟩⟩
end
end PP
set_option Elab.async false
set_option linter.all false
set_option maxRecDepth 100000
set_option maxHeartbeats 4000000
/-! enumerate over a tuple -/
namespace PySem
open PySem.Spec
theorem meets_enum_one {v : Value} {o : Obj} {H : Heap → Prop} (B : Begins v o H) :
    Meets (Builtin.«enumerate.__new__» ⟨[.type "enumerate", v], []⟩) (fun _ R s => H s.heap ∧
      R (.ok (.ret (.ref (s.heap.push o).objs.size))) { s with heap := (s.heap.push o).push { cls := .type "enumerate", data := .fields #[.none, .bool false, .ref s.heap.objs.size, rawInt 0, .none, .none] } }) :=
  .of_wp fun prog w A R s h => by
    obtain ⟨hp, g, d, tk, os⟩ := s
    obtain ⟨h1, h⟩ := h
    have hsub := sub_enumerate
    have q1 : ∀ {A' : Around} {E : Value → Shared → Prop} {Q : Value → Shared → Prop}, Q (.ref hp.objs.size) ⟨hp.push o, g, d, tk, os⟩ → wpAny (model prog w) A' (pyIter v) Q E ⟨hp, g, d, tk, os⟩ :=
      fun q => B.iter prog w _ _ ⟨hp, g, d, tk, os⟩ _ h1 q
    wp_walk using q1
    refine wpAny_stack_any fun st => wpAny_pure ?_
    split
    · rename_i c _ _ _ _ _
      cases (c == Value.type "enumerate")
      · wp_walk using q1
        exact ⟨_, rfl, h⟩
      · wp_walk using q1
        exact ⟨_, rfl, h⟩
    · wp_walk using q1
      exact ⟨_, rfl, h⟩
theorem enum_begins_one {prog : Program} {w : World} {A : Around} {E : Value → Shared → Prop} {s : Shared} {v : Value} {o : Obj} {H : Heap → Prop} {Q : Value → Shared → Prop} (B : Begins v o H) (h1 : H s.heap)
    (h : ∀ h', IsEnum h' (s.heap.objs.size + 1) s.heap.objs.size 0 .none → h'.get? s.heap.objs.size = some o → h'.objs.size = s.heap.objs.size + 2 →
      (∀ b o, s.heap.get? b = some o → h'.get? b = some o) → Q (.ref (s.heap.objs.size + 1)) { s with heap := h' }) :
    wpAny (model prog w) A (call (.type "enumerate") [v]) Q E s := by
  refine callType_new F.called_enumerate (by decide) (F.typeCall_enumerate_1 _) (F.newCall_enumerate_1 _) (fun obj => F.args_object_init_2 obj _) F.entry_enumerate_new (meets_enum_one B) ⟨h1, ?_⟩
  have hz : (s.heap.push o).objs.size = s.heap.objs.size + 1 := Heap.size_push ..
  show _ ∧ _
  rw [hz]
  have he : IsEnum ((s.heap.push o).push { cls := .type "enumerate", data := .fields #[.none, .bool false, .ref s.heap.objs.size, rawInt 0, .none, .none] }) (s.heap.objs.size + 1) s.heap.objs.size 0 .none := by
    have q := Heap.get?_push_size (s.heap.push o) (o := { cls := .type "enumerate", data := .fields #[.none, .bool false, .ref s.heap.objs.size, rawInt 0, .none, .none] }) rfl
    rw [hz] at q
    exact q
  exact ⟨⟨_, he, rfl⟩, h _ he (Heap.get?_push_of_some _ (Heap.get?_push_size _ B.free)) (by rw [Heap.size_push, hz]) fun b o x => Heap.get?_push_of_some _ (Heap.get?_push_of_some _ x)⟩
end PySem
namespace PP
open PySem PySem.Spec PyProof.Rows L2
def IteT (K : PySem.W.Frag) (a : Addr) : It :=
  ⟨fun i H => ∃ (xs : List V) (x : V), SqT K H a xs ∧ xs[i]? = some x, fun i H v H' => ∃ T x, v = .ref T ∧ H T = none ∧ H' = upd H T (.tup [.int (i : Nat), x]) ∧ ∀ xs, SqT K H a xs → xs[i]? = some x, fun i H => ∃ xs : List V, SqT K H a xs ∧ xs.length ≤ i⟩
theorem turn_enumT {P : Program} {w : World} {K : PySem.W.Frag} {elts : List Expr} {kk : Nat} {tpos : Pos} (a e it : Addr) :
    Turn P w K (.Tuple elts kk tpos) (IteT K a) [e, it] e (fun i h => (∃ old, IsEnum h e it ((i : Nat) : Int) old) ∧ h.IsTupleIter it a i ∧ e ≠ it) where
  mem := by simp
  obj := fun i h st b hb => by
    obtain ⟨⟨old, he⟩, ⟨o, ho, hc, hd⟩, _⟩ := st
    rcases (show b = e ∨ b = it by simpa using hb) with z | z
    · rw [z]; exact ⟨_, he, fun v q => nomatch q⟩
    · rw [z]; exact ⟨o, ho, fun v q => by rw [hd] at q; cases q⟩
  keep := fun i h h' st k => let ⟨⟨old, he⟩, hi, hne⟩ := st; ⟨⟨old, k e (by simp) _ he⟩, hi.at fun o q => k it (by simp) o q, hne⟩
  item := by
    intro X hP hw hK hc i pins s σ H E I hf st hg
    subst hP hw hK
    obtain ⟨⟨old, he⟩, hit, hne⟩ := st
    obtain ⟨xs, x, hq, hx⟩ := hg
    obtain ⟨its, rv, p, hz⟩ := I.tuple hq
    obtain ⟨u, hu, ru⟩ := rv.get hx
    have hel : e < s.heap.objs.size := Heap.lt_size he
    have hil : it < s.heap.objs.size := by obtain ⟨_, q, _⟩ := hit; exact Heap.lt_size q
    have hal : a ≠ it := fun z => by
      obtain ⟨o1, q1, q2, _⟩ := p
      obtain ⟨o2, q3, q4, _⟩ := hit
      rw [z, q3] at q1; cases q1; rw [q4] at q2; injection q2 with q2; exact absurd q2 (by decide)
    have hae : e ≠ a := fun z => by
      obtain ⟨o1, q1, q2, _⟩ := p
      have q3 : s.heap.get? e = some _ := he
      rw [z, q1] at q3; cases q3; injection q2 with q2; exact absurd q2 (by decide)
    have hi : i < its.toArray.size := by
      have := (List.getElem?_eq_some_iff.mp hu).1
      simpa using this
    have D := Draws.tuple (prog := X.prog) (w := X.w) (A := X.A.in1) (by have := I.ok.hd hc; exact this) it a hal its.toArray
    refine wpAny_pyNext_enum_itemD D he ⟨hit, p⟩ hi hne (by simp [hne, hae]) fun y h' tk hy ho st' hT hsz hk => ?_
    have ey : y = u := by
      have q : its[i]? = some y := by simpa using hy
      rw [hu] at q; cases q; rfl
    subst ey
    refine ⟨_, rfl, wpAny_letOwnedTupleGo_enum (s := { s with heap := h', toks := tk + 1 }) ho fun h'' he' sb => ?_⟩
    have hT2 : h''.get? s.heap.objs.size = some { cls := .type "tuple", data := .seq #[.int i tk, y] } := (sb.2 _ (Nat.ne_of_gt hel)).trans hT
    have new : ObjOk X.prog X.w (upd H s.heap.objs.size (.tup [.int (i : Nat), x])) h'' s.heap.objs.size (.tup [.int (i : Nat), x]) :=
      ⟨by show 2 ≤ sizeLine; decide, [.int i tk, y], .cons ⟨_, rfl⟩ (.cons ru .nil), ⟨_, hT2, rfl, _, rfl⟩⟩
    have I1 : Inv X pins σ (upd H s.heap.objs.size (.tup [.int (i : Nat), x])) { s with heap := h'', toks := tk + 1 } :=
      I.turnedNew (ch := [e, it]) (fun b ob hb q => (sb.2 b (fun z => hb (by simp [z]))).trans (hk b ob (fun z => hb (by simp [z])) (fun z => hb (by simp [z])) q)) hf (Nat.le_refl _) new
    refine ⟨.ref s.heap.objs.size, _, I1, rfl, ⟨_, x, rfl, I.hok.fresh (Nat.le_refl _), rfl, fun ys hy => by rw [I.tuple_inj hy hq]; exact hx⟩, ⟨⟨y, ?_⟩, st'.1.at fun o q => (sb.2 it (Ne.symm hne)).trans q, hne⟩, fun b hb => ?_⟩
    · have e1 : ((i + 1 : Nat) : Int) = (i : Int) + 1 := by omega
      rw [e1]; exact he'
    · have hb' : b < s.heap.objs.size := by
        rcases (show b = e ∨ b = it by simpa using hb) with z | z
        · rw [z]; exact hel
        · rw [z]; exact hil
      rw [upd_ne (Nat.ne_of_lt hb')]
      exact (hf b hb).1
  done := by
    intro X hP hw hK hc i pins s σ H E I hf st hg
    subst hP hw hK
    obtain ⟨⟨old, he⟩, hit, hne⟩ := st
    obtain ⟨xs, hq, hx⟩ := hg
    obtain ⟨its, rv, p, hz⟩ := I.tuple hq
    obtain ⟨f0, f1, f2, f3, f4, f5⟩ := hf it (by simp)
    have hl := rv.length
    have hT : s.TypeIs (.ref e) "enumerate" := ⟨_, he, rfl⟩
    have fin : ∀ h', Heap.ExtBut it s.heap h' → (none : Option Value) = none ∧ Inv X pins σ H { s with heap := h' } := fun h' eb => ⟨rfl, I.turned (t' := s.toks) (fun b o hb q => eb b o hb q) f0 f1 f3 f4 f5⟩
    unfold pyNext
    refine wpAny_bind (wpAny_attempt (wpAny_callSpecial?_slot (name := Str.ofString "__next__") hT F.slot_enumerate_next (wpAny_call_entry F.slot_enumerate_next hT F.entry_enumerate_next ?_ (F.args_enumerate_next_1 _))))
    show wpAny _ _ (field (.ref e) 2 >>= _) _ _ _
    refine wpAny_bind (wpAny_field he rfl (x := .ref it) rfl ?_)
    refine wpAny_bind (wpAny_nextOf_tuple_end (I.ok.hd hc) hit p (by simp; omega) fun h' x he' hx' => ?_)
    obtain ⟨o, ho, hcl⟩ := hx'
    refine wpAny_bind (wpAny_isInstance (T := "StopIteration") (b := true) ⟨o, ho, hcl⟩ isSubtype_stop ?_)
    exact wpAny_pure (fin h' he')
  self := fun A i s Q E st h => let ⟨⟨_, he⟩, _⟩ := st; wpAny_pyIter_enum he h
theorem walk_enumT {K : PySem.W.Frag} {a : Addr} {xs : List V} : Walk (IteT K a) xs.length (fun H => SqT K H a xs) (YPair (fun i => some (.int (i : Nat))) (fun i => xs[i]?)) where
  goes := fun i H hi g => ⟨xs, xs[i], g, by simp [hi]⟩
  stops := fun H g => ⟨xs, g, Nat.le_refl _⟩
  yields := fun i H x H' hi g ⟨T, y, e, n, e2, z⟩ => ⟨T, _, y, e, n, e2, rfl, z xs g⟩
/-! enumerate over a text -/
def IteX (z : Str) : It :=
  ⟨fun i _ => i < z.cps.size, fun i H v H' => ∃ T c, v = .ref T ∧ H T = none ∧ H' = upd H T (.tup [.int (i : Nat), .str ⟨#[c]⟩]) ∧ z.cps[i]? = some c, fun i _ => z.cps.size ≤ i⟩
theorem turn_enumX {P : Program} {w : World} {K : PySem.W.Frag} {elts : List Expr} {kk : Nat} {tpos : Pos} (z : Str) (t : Tok) (e it : Addr) :
    Turn P w K (.Tuple elts kk tpos) (IteX z) [e, it] e (fun i h => i ≤ z.cps.size ∧ (∃ old, IsEnum h e it ((i : Nat) : Int) old) ∧ h.IsStrIter it (strIterType z) z t i ∧ e ≠ it) where
  mem := by simp
  obj := fun i h st b hb => by
    obtain ⟨_, ⟨old, he⟩, ⟨o, ho, hc, hd⟩, _⟩ := st
    rcases (show b = e ∨ b = it by simpa using hb) with z | z
    · rw [z]; exact ⟨_, he, fun v q => nomatch q⟩
    · rw [z]; exact ⟨o, ho, fun v q => by rw [hd] at q; cases q⟩
  keep := fun i h h' st k => let ⟨hl, ⟨old, he⟩, ⟨o, ho, hc⟩, hne⟩ := st; ⟨hl, ⟨old, k e (by simp) _ he⟩, ⟨o, k it (by simp) o ho, hc⟩, hne⟩
  item := by
    intro X hP hw hK hc i pins s σ H E I hf st hg
    subst hP hw hK
    obtain ⟨_, ⟨old, he⟩, hit, hne⟩ := st
    have hg : i < z.cps.size := hg
    have hel : e < s.heap.objs.size := Heap.lt_size he
    have hil : it < s.heap.objs.size := by obtain ⟨_, q, _⟩ := hit; exact Heap.lt_size q
    have D := Draws.text (prog := X.prog) (w := X.w) (A := X.A.in1) (by have := I.ok.hd hc; exact this) it z t
    refine wpAny_pyNext_enum_itemD D he hit hg hne (by simp [hne]) fun y h' tk hy ho st' hT hsz hk => ?_
    obtain ⟨c, u, ec, rfl⟩ := hy
    refine ⟨_, rfl, wpAny_letOwnedTupleGo_enum (s := { s with heap := h', toks := tk + 1 }) ho fun h'' he' sb => ?_⟩
    have hT2 : h''.get? s.heap.objs.size = some { cls := .type "tuple", data := .seq #[.int i tk, .str ⟨#[c]⟩ u] } := (sb.2 _ (Nat.ne_of_gt hel)).trans hT
    have new : ObjOk X.prog X.w (upd H s.heap.objs.size (.tup [.int (i : Nat), .str ⟨#[c]⟩])) h'' s.heap.objs.size (.tup [.int (i : Nat), .str ⟨#[c]⟩]) :=
      ⟨by show 2 ≤ sizeLine; decide, [.int i tk, .str ⟨#[c]⟩ u], .cons ⟨_, rfl⟩ (.cons ⟨_, rfl⟩ .nil), ⟨_, hT2, rfl, _, rfl⟩⟩
    have I1 : Inv X pins σ (upd H s.heap.objs.size (.tup [.int (i : Nat), .str ⟨#[c]⟩])) { s with heap := h'', toks := tk + 1 } :=
      I.turnedNew (ch := [e, it]) (fun b ob hb q => (sb.2 b (fun z => hb (by simp [z]))).trans (hk b ob (fun z => hb (by simp [z])) (fun z => hb (by simp [z])) q)) hf (Nat.le_refl _) new
    refine ⟨.ref s.heap.objs.size, _, I1, rfl, ⟨_, c, rfl, I.hok.fresh (Nat.le_refl _), rfl, ec⟩, ⟨hg, ⟨.str ⟨#[c]⟩ u, ?_⟩, ?_, hne⟩, fun b hb => ?_⟩
    · have e1 : ((i + 1 : Nat) : Int) = (i : Int) + 1 := by omega
      rw [e1]; exact he'
    · obtain ⟨o, ho1, ho2⟩ := st'
      exact ⟨o, (sb.2 it (Ne.symm hne)).trans ho1, ho2⟩
    · have hb' : b < s.heap.objs.size := by
        rcases (show b = e ∨ b = it by simpa using hb) with z | z
        · rw [z]; exact hel
        · rw [z]; exact hil
      rw [upd_ne (Nat.ne_of_lt hb')]
      exact (hf b hb).1
  done := by
    intro X hP hw hK hc i pins s σ H E I hf st hg
    subst hP hw hK
    obtain ⟨hl, ⟨old, he⟩, hit, hne⟩ := st
    have hg : z.cps.size ≤ i := hg
    obtain rfl : i = z.cps.size := by omega
    obtain ⟨f0, f1, f2, f3, f4, f5⟩ := hf it (by simp)
    have D := Draws.text (prog := X.prog) (w := X.w) (A := X.A.in1) (by have := I.ok.hd hc; exact this) it z t
    refine wpAny_pyNext_enum_endD D he hit fun h' eb => ?_
    exact ⟨rfl, I.turned (t' := s.toks) (fun b o hb q => eb b o hb q) f0 f1 f3 f4 f5⟩
  self := fun A i s Q E st h => let ⟨_, ⟨_, he⟩, _⟩ := st; wpAny_pyIter_enum he h
theorem walk_enumX {z : Str} : Walk (IteX z) (z.cps.toList.map fun c => V.str ⟨#[c]⟩).length (fun _ => True) (YPair (fun i => some (.int (i : Nat))) (fun i => (z.cps.toList.map fun c => V.str ⟨#[c]⟩)[i]?)) where
  goes := fun i H hi _ => show i < z.cps.size by simpa using hi
  stops := fun H _ => by simp [IteX]
  yields := fun i H x H' hi g ⟨T, c, e, n, e2, ec⟩ => ⟨T, _, .str ⟨#[c]⟩, e, n, e2, rfl, by show (z.cps.toList.map fun c => V.str ⟨#[c]⟩)[i]? = _; rw [List.getElem?_map, Array.getElem?_toList, ec]; rfl⟩
def iEnumS (K : PySem.W.Frag) (ta : TA) : TI := fun σ H R => ta σ H fun vs H1 => (∃ a xs, vs = [.ref a] ∧ ((SqL K H1 a xs ∧ R (Ite K a) H1) ∨ (SqT K H1 a xs ∧ R (IteT K a) H1))) ∨ ∃ z, vs = [.str z] ∧ R (IteX z) H1
theorem pi_enumS {X : Cx} {e : Expr} {ta : TA} {p pos tpos : Pos} {elts : List Expr} {kk : Nat} (hg : Gl X "enumerate") (hm : X.mg "enumerate" = none) (ha : PA X [e] ta) (hs : starEach [e] X.env = [(false, eval e X.env)]) :
    PI X (.Tuple elts kk tpos) (.Call (.Name "enumerate" p) [e] [] pos) (iEnumS X.K ta) := by
  refine ⟨fun pins s σ H R I h => ?_⟩
  refine Call_ (ld_blt I hg hm boot_enumerate (PyProof.Rows.callWith_type1 (thn (ha.run pos pins s σ H _ I h) fun us s1 ⟨vs, H1, I1, r1, q1⟩ => ?_) hs rfl))
  have fp : ∀ b ∈ [s1.heap.objs.size + 1, s1.heap.objs.size], FpOk X pins H1 b := fun b hb => by
    have hle : s1.heap.objs.size ≤ b := by
      rcases (show b = s1.heap.objs.size + 1 ∨ b = s1.heap.objs.size by simpa using hb) with z | z
      · rw [z]; exact Nat.le_add_right _ _
      · rw [z]; exact Nat.le_refl _
    exact I1.fpOk hle (I1.hok.fresh hle)
  rcases q1 with ⟨a, xs, ex, q⟩ | ⟨z, ex, q⟩
  case inr =>
    subst ex
    obtain ⟨u, rfl, r⟩ := vals1 r1
    obtain ⟨t, rfl⟩ := r
    exact enum_begins_one (begins_text z t) trivial fun h' he hit hsz hk => wpAny_pyIter_enum he
      ⟨s1.heap.objs.size + 1, [s1.heap.objs.size + 1, s1.heap.objs.size], _, _, H1, rfl, I1.kept (t' := s1.toks) hk, turn_enumX z t _ s1.heap.objs.size, ⟨Nat.zero_le _, ⟨.none, he⟩, ⟨_, hit, rfl, rfl⟩, Nat.succ_ne_self _⟩, fp, q⟩
  subst ex
  obtain ⟨u, rfl, r⟩ := vals1 r1
  cases r
  rcases q with ⟨hq, q⟩ | ⟨hq, q⟩
  · obtain ⟨its, rv, p', hz⟩ := I1.list hq
    exact call_enumerate_list p'.isList fun h' he hit hsz hk => wpAny_pyIter_enum he
      ⟨s1.heap.objs.size + 1, [s1.heap.objs.size + 1, s1.heap.objs.size], _, _, H1, rfl, I1.kept (t' := s1.toks) hk, turn_enum a _ s1.heap.objs.size, ⟨⟨.none, he⟩, hit, Nat.succ_ne_self _⟩, fp, q⟩
  · obtain ⟨its, rv, p', hz⟩ := I1.tuple hq
    exact enum_begins_one (begins_tuple a its.toArray) p' fun h' he hit hsz hk => wpAny_pyIter_enum he
      ⟨s1.heap.objs.size + 1, [s1.heap.objs.size + 1, s1.heap.objs.size], _, _, H1, rfl, I1.kept (t' := s1.toks) hk, turn_enumT a _ s1.heap.objs.size, ⟨⟨.none, he⟩, ⟨_, hit, rfl, rfl⟩, Nat.succ_ne_self _⟩, fp, q⟩
/-- a list or a tuple -/
def iSeq (K : PySem.W.Frag) (tl : TE) : TI := fun σ H R => tl σ H fun x H1 => ∃ a xs, x = .ref a ∧ ((SqL K H1 a xs ∧ R (Itl K a) H1) ∨ (SqT K H1 a xs ∧ R (Itt K a) H1))
theorem pi_seq {X : Cx} {tg l : Expr} {tl : TE} (hl : PE X l tl) : PI X tg l (iSeq X.K tl) := by
  refine ⟨fun pins s σ H R I h => ?_⟩
  refine thn (hl.run pins s σ H _ I h) fun v s1 ⟨x, H1, I1, r1, q1⟩ => ?_
  obtain ⟨a, xs, e, q⟩ := q1
  subst e
  cases r1
  have fp : ∀ b ∈ [s1.heap.objs.size], FpOk X pins H1 b := fun b hb => by
    have e : b = s1.heap.objs.size := by simpa using hb
    subst e
    exact I1.fpOk (Nat.le_refl _) (I1.hok.fresh (Nat.le_refl _))
  rcases q with ⟨hq, q⟩ | ⟨hq, q⟩
  · obtain ⟨its, rv, p, hz⟩ := I1.list hq
    exact wpAny_pyIter_list p.isList ⟨s1.heap.objs.size, [s1.heap.objs.size], _, _, H1, rfl, I1.kept (t' := s1.toks) fun b o e => Heap.get?_push_of_some _ e, turn_list a _, ⟨_, Heap.get?_push_size _ rfl, rfl, rfl⟩, fp, q⟩
  · obtain ⟨its, rv, p, hz⟩ := I1.tuple hq
    exact wpAny_pyIter_tuple (show s1.heap.IsTuple a its.toArray from p) ⟨s1.heap.objs.size, [s1.heap.objs.size], _, _, H1, rfl, I1.kept (t' := s1.toks) fun b o e => Heap.get?_push_of_some _ e, turn_tuple a _, ⟨_, Heap.get?_push_size _ rfl, rfl, rfl⟩, fp, q⟩

/-- a list, a tuple or a text -/
def iSeqS (K : PySem.W.Frag) (tl : TE) : TI := fun σ H R => tl σ H fun x H1 => (∃ a xs, x = .ref a ∧ ((SqL K H1 a xs ∧ R (Itl K a) H1) ∨ (SqT K H1 a xs ∧ R (Itt K a) H1))) ∨ ∃ z, x = .str z ∧ R (Its z) H1
theorem pi_seqS {X : Cx} {tg l : Expr} {tl : TE} (hl : PE X l tl) : PI X tg l (iSeqS X.K tl) := by
  refine ⟨fun pins s σ H R I h => ?_⟩
  refine thn (hl.run pins s σ H _ I h) fun v s1 ⟨x, H1, I1, r1, q1⟩ => ?_
  have fp : ∀ b ∈ [s1.heap.objs.size], FpOk X pins H1 b := fun b hb => by
    have e : b = s1.heap.objs.size := by simpa using hb
    subst e
    exact I1.fpOk (Nat.le_refl _) (I1.hok.fresh (Nat.le_refl _))
  rcases q1 with ⟨a, xs, e, q⟩ | ⟨z, e, q⟩
  · subst e
    cases r1
    rcases q with ⟨hq, q⟩ | ⟨hq, q⟩
    · obtain ⟨its, rv, p, hz⟩ := I1.list hq
      exact wpAny_pyIter_list p.isList ⟨s1.heap.objs.size, [s1.heap.objs.size], _, _, H1, rfl, I1.kept (t' := s1.toks) fun b o e => Heap.get?_push_of_some _ e, turn_list a _, ⟨_, Heap.get?_push_size _ rfl, rfl, rfl⟩, fp, q⟩
    · obtain ⟨its, rv, p, hz⟩ := I1.tuple hq
      exact wpAny_pyIter_tuple (show s1.heap.IsTuple a its.toArray from p) ⟨s1.heap.objs.size, [s1.heap.objs.size], _, _, H1, rfl, I1.kept (t' := s1.toks) fun b o e => Heap.get?_push_of_some _ e, turn_tuple a _, ⟨_, Heap.get?_push_size _ rfl, rfl, rfl⟩, fp, q⟩
  · subst e
    obtain ⟨t, rfl⟩ := r1
    cases ha : z.cps.all (· < 128)
    · exact wpAny_pyIter_wide ha (pi_one (tk := s1.toks) I1 _ (turn_str _ z t "str_iterator" (.inr rfl)) ⟨_, Heap.get?_push_size _ rfl, rfl, rfl⟩ q)
    · exact wpAny_pyIter_ascii ha (pi_one (tk := s1.toks) I1 _ (turn_str _ z t "str_ascii_iterator" (.inl rfl)) ⟨_, Heap.get?_push_size _ rfl, rfl, rfl⟩ q)

/-! ### what is walked, as a list of values -/
abbrev WI := PSt → PH → (List PV → PSt → PH → Prop) → EPost → Prop
/-- a walk gives ps, whatever happens to what is ours in the meantime -/
def WalkOk (K : PySem.W.Frag) (F : Addr → Prop) (H : Hp) (ps : List PV) (J : It) : Prop :=
  ∃ G Y, Walk J ps.length G Y ∧ (∀ F2 H2, Keep F H F2 H2 → G H2) ∧ ∀ F2 H2 i x H3 p, Keep F H F2 H2 → (∀ a, F2 a → ∃ u, H2 a = some u) → Y i H2 x H3 → ps[i]? = some p → (H3 = H2 ∨ ∃ T u, H2 T = none ∧ H3 = upd H2 T u) ∧ Rp K H3 F2 p x
def CI (K : PySem.W.Frag) (F : Ft) (σ : L2.St) (H : Hp) (R : It → Hp → Prop) : List PV → PSt → PH → Prop := fun ps σp' h' => ∀ F' H' J, Fr F H F' H' → Sm K H' F' σp' h' σ → WalkOk K F' H' ps J → R J H'
def LI (K : PySem.W.Frag) (mg : Str → Option Value) (T : WI) (W : WX) : TI := fun σ H R => ∃ F σp h, Sm K H F σp h σ ∧ T σp h (CI K F σ H R) (CE' K mg F σ H W)
structure JI (S : Sc) (tg e : Expr) (T : WI) : Prop where
  run : ∀ X W, At S X → Takes X W → PI X tg e (LI X.K X.mg T W)
  mono : Mono T
theorem pi_weak {X : Cx} {tg e : Expr} {t t' : TI} (p : PI X tg e t) (i : ∀ σ H Q, t' σ H Q → t σ H Q) : PI X tg e t' := ⟨fun pins s σ H Q I q => p.run pins s σ H Q I (i σ H Q q)⟩
def sgP (z : Str) : List PV := z.cps.toList.map fun c => .str ⟨#[c]⟩
def seqW : PV → Option (List PV)
  | .str z => some (sgP z)
  | p => seqOf p
def wSeq (T : WE) : WI := fun σ h Q E => T σ h (fun e σ1 h1 => share e σ1 h1 fun p σ2 h2 => ∃ xs, seqW p = some xs ∧ Q xs σ2 h2) E
theorem wSeq_mono {T : WE} (m : Mono T) : Mono (wSeq T) := fun σ h Q Q' E E' i j q => m _ _ _ _ _ _ (fun e σ h q => share_mono (fun p σ h ⟨xs, e, q⟩ => ⟨xs, e, i _ _ _ q⟩) q) j q
section
variable {K : PySem.W.Frag} {F : Addr → Prop} {σ : L2.St} {H : Hp}
theorem Rp.seqF {p : PV} {v : V} {ps : List PV} (r : Rp K H F p v) (e : seqOf p = some ps) : ∃ a vs, v = .ref a ∧ RpL K H F ps vs ∧ ((isTupV p = false ∧ ∀ F2 H2, Keep F H F2 H2 → SqL K H2 a vs) ∨ (isTupV p = true ∧ ∀ F2 H2, Keep F H F2 H2 → SqT K H2 a vs)) := by
  cases r with
  | tup q r => cases e; exact ⟨_, _, rfl, r, .inr ⟨rfl, fun F2 H2 k => q.elim (fun z => .inl (.inl (k _ _ z.1 z.2).1)) .inr⟩⟩
  | lst q r => cases e; exact ⟨_, _, rfl, r, .inl ⟨rfl, fun F2 H2 k => .inl (.inl (k _ _ q.1 q.2).1)⟩⟩
  | rdl q r => cases e; exact ⟨_, _, rfl, r, .inl ⟨rfl, fun F2 H2 k => q.elim (fun ⟨o, z⟩ => .inl (.inr ⟨o, (k _ _ z.1 z.2).1⟩)) .inr⟩⟩
  | _ => cases e
theorem Keep.trans {F1 F2 : Addr → Prop} {H1 H2 : Hp} (a : Keep F H F1 H1) (b : Keep F1 H1 F2 H2) : Keep F H F2 H2 := fun x o e n => let ⟨p, q⟩ := a x o e n; b x o p q
theorem Keep.refl : Keep F H F H := fun _ _ e n => ⟨e, n⟩
theorem WalkOk.list {ps : List PV} {vs : List V} {a : Addr} (r : RpL K H F ps vs) (k : ∀ F2 H2, Keep F H F2 H2 → SqL K H2 a vs) : WalkOk K F H ps (Itl K a) :=
  ⟨fun H => SqL K H a vs, YAt vs, by rw [r.length]; exact walk_list, k, fun F2 H2 i x H3 p kp _ ⟨e, ex⟩ ep => by
    subst e
    obtain ⟨v, ev, rv⟩ := (r.keep kp).get ep
    rw [ev] at ex; cases ex
    exact ⟨.inl rfl, rv⟩⟩
theorem WalkOk.tup {ps : List PV} {vs : List V} {a : Addr} (r : RpL K H F ps vs) (k : ∀ F2 H2, Keep F H F2 H2 → SqT K H2 a vs) : WalkOk K F H ps (Itt K a) :=
  ⟨fun H => SqT K H a vs, YAt vs, by rw [r.length]; exact walk_tup, k, fun F2 H2 i x H3 p kp _ ⟨e, ex⟩ ep => by
    subst e
    obtain ⟨v, ev, rv⟩ := (r.keep kp).get ep
    rw [ev] at ex; cases ex
    exact ⟨.inl rfl, rv⟩⟩
def enumP (i : Nat) : List PV → List PV
  | [] => []
  | x :: xs => .tup [.int i, x] :: enumP (i + 1) xs
theorem enumP_len : ∀ (xs : List PV) (i : Nat), (enumP i xs).length = xs.length
  | [], _ => rfl
  | _ :: xs, i => by rw [enumP, List.length_cons, enumP_len xs, List.length_cons]
theorem enumP_get : ∀ (xs : List PV) (i j : Nat) {p : PV}, (enumP i xs)[j]? = some p → ∃ q, xs[j]? = some q ∧ p = .tup [.int ((i + j : Nat) : Int), q]
  | [], _, _, _, e => by simp [enumP] at e
  | x :: xs, i, 0, p, e => by simp [enumP] at e; exact ⟨x, rfl, e.symm⟩
  | x :: xs, i, j + 1, p, e => by
    obtain ⟨q, a, b⟩ := enumP_get xs (i + 1) j (p := p) (by simpa [enumP] using e)
    exact ⟨q, by simpa using a, by rw [b]; congr 3; omega⟩
theorem WalkOk.enum {ps : List PV} {vs : List V} {J : It} {G : Hp → Prop} (r : RpL K H F ps vs) (k : ∀ F2 H2, Keep F H F2 H2 → G H2) (w : Walk J vs.length G (YPair (fun i => some (.int (i : Nat))) (fun i => vs[i]?))) : WalkOk K F H (enumP 0 ps) J :=
  ⟨G, YPair (fun i => some (.int (i : Nat))) (fun i => vs[i]?), by rw [enumP_len, r.length]; exact w, k, fun F2 H2 i x H3 p kp fin ⟨T, y, z, e, n, e2, ey, ez⟩ ep => by
    obtain ⟨q, eq, rfl⟩ := enumP_get ps 0 i ep
    obtain ⟨v, ev, rv⟩ := (r.keep kp).get eq
    have ez : vs[i]? = some z := ez
    obtain rfl : v = z := by rw [ev] at ez; exact Option.some.inj ez
    cases ey
    subst e e2
    refine ⟨.inr ⟨T, _, n, rfl⟩, .tup (vs := [.int (i : Nat), v]) (.inl ⟨upd_same, fun f => ?_⟩) (.cons ?_ (.cons (rv.keep (.new n)) .nil))⟩
    · obtain ⟨u, eu⟩ := fin T f
      rw [n] at eu; cases eu
    · have e : ((0 + i : Nat) : Int) = (i : Int) := by omega
      rw [e]; exact .int _⟩
def rangeP (lo : Int) (n : Nat) : List PV := (List.range n).map fun i => .int (lo + (i : Nat))
theorem WalkOk.range {lo : Int} {n : Nat} : WalkOk K F H (rangeP lo n) (Itr lo n) :=
  ⟨fun _ => True, YFn fun i => .int (lo + (i : Nat)), by rw [show (rangeP lo n).length = n by simp [rangeP]]; exact walk_range, fun _ _ _ => trivial, fun F2 H2 i x H3 p kp _ ⟨e, ex⟩ ep => by
    subst e ex
    have : p = .int (lo + (i : Nat)) := by
      unfold rangeP at ep
      rw [List.getElem?_map] at ep
      cases z : (List.range n)[i]? with
      | none => rw [z] at ep; cases ep
      | some j =>
        rw [z] at ep
        obtain ⟨hl, hj⟩ := List.getElem?_eq_some_iff.mp z
        rw [List.getElem_range] at hj
        subst hj
        exact (Option.some.inj ep).symm
    subst this
    exact ⟨.inl rfl, .int _⟩⟩
def rangeC (lo c : Int) (n : Nat) : List PV := (List.range n).map fun i => .int (lo + (i : Nat) * c)
theorem WalkOk.rangeC {lo c : Int} {n : Nat} : WalkOk K F H (PP.rangeC lo c n) (Itc lo c n) :=
  ⟨fun _ => True, YFn fun i => .int (lo + (i : Nat) * c), by rw [show (PP.rangeC lo c n).length = n by simp [PP.rangeC]]; exact walk_rangeC, fun _ _ _ => trivial, fun F2 H2 i x H3 p kp _ ⟨e, ex⟩ ep => by
    subst e ex
    have : p = .int (lo + (i : Nat) * c) := by
      unfold PP.rangeC at ep
      rw [List.getElem?_map] at ep
      cases z : (List.range n)[i]? with
      | none => rw [z] at ep; cases ep
      | some j =>
        rw [z] at ep
        obtain ⟨hl, hj⟩ := List.getElem?_eq_some_iff.mp z
        rw [List.getElem_range] at hj
        subst hj
        exact (Option.some.inj ep).symm
    subst this
    exact ⟨.inl rfl, .int _⟩⟩
end
theorem CI.step {K : PySem.W.Frag} {F F1 : Ft} {σ : L2.St} {H H1 : Hp} {R : It → Hp → Prop} {ps : List PV} {σp : PSt} {h : PH} (f : Fr F H F1 H1) (q : CI K F σ H R ps σp h) : CI K F1 σ H1 R ps σp h := fun F' H' J g s w => q F' H' J (f.trans g) s w
section
variable {S : Sc} {tg e : Expr} {T : WE} {U : WA} {p pos : Pos}
theorem WalkOk.str {K : PySem.W.Frag} {F : Addr → Prop} {H : Hp} {z : Str} : WalkOk K F H (sgP z) (Its z) :=
  ⟨fun _ => True, fun i H v H' => H' = H ∧ ∃ c, z.cps[i]? = some c ∧ v = .str ⟨#[c]⟩, by rw [show (sgP z).length = z.cps.size by simp [sgP]]; exact walk_str, fun _ _ _ => trivial, fun F2 H2 i x H3 p kp _ ⟨e, c, ec, ex⟩ ep => by
    subst e ex
    unfold sgP at ep
    rw [List.getElem?_map, Array.getElem?_toList, ec] at ep
    cases ep
    exact ⟨.inl rfl, .str _⟩⟩
theorem ji_seq (h : JE S e T) : JI S tg e (wSeq T) where
  mono := wSeq_mono h.mono
  run := fun X W A tk => by
    refine pi_weak (pi_seqS (h.run X W A tk)) fun σ H R q => ?_
    obtain ⟨F, σp, h', s, q⟩ := q
    refine ⟨F, σp, h', s, h.mono _ _ _ _ _ _ (fun ea σ1 h1 q1 F1 H1 x f1 r1 => ?_) (fun _ _ _ z => z) q⟩
    have q1 : share (pend ea) σ1 h1 (fun p σ2 h2 => ∃ xs, seqW p = some xs ∧ CI X.K F σ H R xs σ2 h2) := by cases ea <;> exact q1
    obtain ⟨F2, p, σ2, h2, s2, rp, ⟨xs, ex, q2⟩, k2, f2⟩ := share_ok r1.sm r1.re q1
    have old : seqOf p = some xs → (∃ a xs, x = .ref a ∧ ((SqL X.K H1 a xs ∧ R (Itl X.K a) H1) ∨ (SqT X.K H1 a xs ∧ R (Itt X.K a) H1))) ∨ ∃ z, x = .str z ∧ R (Its z) H1 := fun ex => by
      obtain ⟨a, vs, rfl, rl, z⟩ := rp.seqF ex
      refine .inl ⟨a, vs, rfl, ?_⟩
      rcases z with ⟨_, z⟩ | ⟨_, z⟩
      · exact .inl ⟨z _ _ .refl, q2 F2 H1 _ (f1.trans f2) s2 (.list rl z)⟩
      · exact .inr ⟨z _ _ .refl, q2 F2 H1 _ (f1.trans f2) s2 (.tup rl z)⟩
    cases p with
    | str z =>
      cases ex
      cases rp
      exact .inr ⟨z, rfl, q2 F2 H1 _ (f1.trans f2) s2 .str⟩
    | _ => exact old ex
/-- range(n), range(a, b), range(a, b, c) -/
def Fit (i : Int) : Prop := -(2 ^ 62) ≤ i ∧ i < 2 ^ 62
def wRng1 (U : WA) : WI := fun σ h Q E => U σ h (fun es σ1 h1 => ∃ j, es = [.val (.int j)] ∧ Fit j ∧ Q (rangeP 0 j.toNat) σ1 h1) E
def wRng2 (U : WA) : WI := fun σ h Q E => U σ h (fun es σ1 h1 => ∃ i j, es = [.val (.int i), .val (.int j)] ∧ Fit i ∧ Fit j ∧ Q (rangeP i (j - i).toNat) σ1 h1) E
def wRng3 (U : WA) : WI := fun σ h Q E => U σ h (fun es σ1 h1 => ∃ i j c n, es = [.val (.int i), .val (.int j), .val (.int c)] ∧ RgC i j c n ∧ Q (rangeC i c n) σ1 h1) E
theorem REL.int1 {K : PySem.W.Frag} {F : Ft} {σ : L2.St} {H : Hp} {j : Int} {vs : List V} (r : REL K F σ H [.val (.int j)] vs) : vs = [.int j] := by
  cases r with
  | cons a b => cases b; cases a; rfl
theorem REL.int2 {K : PySem.W.Frag} {F : Ft} {σ : L2.St} {H : Hp} {i j : Int} {vs : List V} (r : REL K F σ H [.val (.int i), .val (.int j)] vs) : vs = [.int i, .int j] := by
  cases r with
  | cons a b => cases a; rw [REL.int1 b]
theorem REL.int3 {K : PySem.W.Frag} {F : Ft} {σ : L2.St} {H : Hp} {i j k : Int} {vs : List V} (r : REL K F σ H [.val (.int i), .val (.int j), .val (.int k)] vs) : vs = [.int i, .int j, .int k] := by
  cases r with
  | cons a b => cases a; rw [REL.int2 b]
theorem ji_range1 {a : Expr} (hm : S.mg "range" = none) (ha : JA S [a] U) (hg : S.sc.names.lookup ("range" : Str) = some .globalImplicit := by rfl) (hs : ∀ env, starEach [a] env = [(false, eval a env)] := by intro _; rfl) : JI S tg (.Call (.Name "range" p) [a] [] pos) (wRng1 U) where
  mono := fun σ h Q Q' E E' i j q => ha.mono _ _ _ _ _ _ (fun e σ h ⟨n, e, f, q⟩ => ⟨n, e, f, i _ _ _ q⟩) j q
  run := fun X W A tk => by
    refine pi_weak (pi_range1 (gl_of A hg) (by rw [A.mg]; exact hm) (ha.run X W A tk) (hs _)) fun σ H R q => ?_
    obtain ⟨F, σp, h', s, q⟩ := q
    refine ⟨F, σp, h', s, ha.mono _ _ _ _ _ _ (fun es σ1 h1 ⟨n, e, f, q1⟩ F1 H1 vs f1 s1 r1 => ?_) (fun _ _ _ z => z) q⟩
    subst e
    have := r1.int1; subst this
    exact ⟨_, rfl, f.1, f.2, q1 F1 H1 _ f1 s1 .range⟩
theorem ji_range2 {a b : Expr} (hm : S.mg "range" = none) (ha : JA S [a, b] U) (hg : S.sc.names.lookup ("range" : Str) = some .globalImplicit := by rfl) (hs : ∀ env, starEach [a, b] env = [(false, eval a env), (false, eval b env)] := by intro _; rfl) (hs2 : ∀ env, starEach [b] env = [(false, eval b env)] := by intro _; rfl) : JI S tg (.Call (.Name "range" p) [a, b] [] pos) (wRng2 U) where
  mono := fun σ h Q Q' E E' i j q => ha.mono _ _ _ _ _ _ (fun e σ h ⟨n, m, e, f, g, q⟩ => ⟨n, m, e, f, g, i _ _ _ q⟩) j q
  run := fun X W A tk => by
    refine pi_weak (pi_range2 (gl_of A hg) (by rw [A.mg]; exact hm) (ha.run X W A tk) (hs _) (hs2 _)) fun σ H R q => ?_
    obtain ⟨F, σp, h', s, q⟩ := q
    refine ⟨F, σp, h', s, ha.mono _ _ _ _ _ _ (fun es σ1 h1 ⟨n, m, e, f, g, q1⟩ F1 H1 vs f1 s1 r1 => ?_) (fun _ _ _ z => z) q⟩
    subst e
    have := r1.int2; subst this
    exact ⟨_, _, rfl, ⟨f.1, f.2, g.1, g.2⟩, q1 F1 H1 _ f1 s1 .range⟩
theorem ji_range3 {a b c : Expr} (hm : S.mg "range" = none) (ha : JA S [a, b, c] U) (hg : S.sc.names.lookup ("range" : Str) = some .globalImplicit := by rfl) (hs : ∀ env, starEach [a, b, c] env = (false, eval a env) :: starEach [b, c] env := by intro _; rfl) (hpl : ∀ env, (backTo pos (starEach [b, c] env)).any (·.1) = false := by intro _; rfl) : JI S tg (.Call (.Name "range" p) [a, b, c] [] pos) (wRng3 U) where
  mono := fun σ h Q Q' E E' i j q => ha.mono _ _ _ _ _ _ (fun e σ h ⟨n, m, c, k, e, f, q⟩ => ⟨n, m, c, k, e, f, i _ _ _ q⟩) j q
  run := fun X W A tk => by
    refine pi_weak (pi_range3 (gl_of A hg) (by rw [A.mg]; exact hm) (ha.run X W A tk) (hs _) (hpl _)) fun σ H R q => ?_
    obtain ⟨F, σp, h', s, q⟩ := q
    refine ⟨F, σp, h', s, ha.mono _ _ _ _ _ _ (fun es σ1 h1 ⟨n, m, c, k, e, f, q1⟩ F1 H1 vs f1 s1 r1 => ?_) (fun _ _ _ z => z) q⟩
    subst e
    have := r1.int3; subst this
    exact ⟨_, _, _, _, rfl, f, q1 F1 H1 _ f1 s1 .rangeC⟩
theorem RpL.signs0 {K : PySem.W.Frag} {H : Hp} {F : Addr → Prop} : ∀ cs : List Nat, RpL K H F (cs.map fun c => .str ⟨#[c]⟩) (cs.map fun c => .str ⟨#[c]⟩)
  | [] => .nil
  | _ :: cs => .cons (.str _) (RpL.signs0 cs)
/-- enumerate(xs) -/
def wEnum (U : WA) : WI := fun σ h Q E => U σ h (fun es σ1 h1 => shareL es σ1 h1 fun ps σ2 h2 => ∃ p xs, ps = [p] ∧ seqW p = some xs ∧ Q (enumP 0 xs) σ2 h2) E
theorem ji_enum {a : Expr} {elts : List Expr} {kk : Nat} {tpos : Pos} (hm : S.mg "enumerate" = none) (ha : JA S [a] U) (hg : S.sc.names.lookup ("enumerate" : Str) = some .globalImplicit := by rfl) (hs : ∀ env, starEach [a] env = [(false, eval a env)] := by intro _; rfl) : JI S (.Tuple elts kk tpos) (.Call (.Name "enumerate" p) [a] [] pos) (wEnum U) where
  mono := fun σ h Q Q' E E' i j q => ha.mono _ _ _ _ _ _ (fun e σ h q => shareL_mono (fun ps σ h ⟨p, xs, e1, e2, q⟩ => ⟨p, xs, e1, e2, i _ _ _ q⟩) q) j q
  run := fun X W A tk => by
    refine pi_weak (pi_enumS (gl_of A hg) (by rw [A.mg]; exact hm) (ha.run X W A tk) (hs _)) fun σ H R q => ?_
    obtain ⟨F, σp, h', s, q⟩ := q
    refine ⟨F, σp, h', s, ha.mono _ _ _ _ _ _ (fun es σ1 h1 q1 F1 H1 vs f1 s1 r1 => ?_) (fun _ _ _ z => z) q⟩
    obtain ⟨F2, ps, σ2, h2, s2, rl, ⟨p, xs, e1, e2, q2⟩, f2⟩ := shareL_ok s1 r1 q1
    subst e1
    cases rl with
    | @cons _ v _ _ rp rn =>
      cases rn
      have old : seqOf p = some xs → (∃ a vs', [v] = [V.ref a] ∧ ((SqL X.K H1 a vs' ∧ R (Ite X.K a) H1) ∨ (SqT X.K H1 a vs' ∧ R (IteT X.K a) H1))) ∨ ∃ z, [v] = [V.str z] ∧ R (IteX z) H1 := fun e2 => by
        obtain ⟨a, vs, rfl, rl, z⟩ := rp.seqF e2
        refine Or.inl ⟨a, vs, rfl, ?_⟩
        rcases z with ⟨_, z⟩ | ⟨_, z⟩
        · exact .inl ⟨z _ _ .refl, q2 F2 H1 _ (f1.trans f2) s2 (.enum rl z walk_enum)⟩
        · exact .inr ⟨z _ _ .refl, q2 F2 H1 _ (f1.trans f2) s2 (.enum rl z walk_enumT)⟩
      cases p with
      | str z =>
        cases e2
        cases rp
        exact .inr ⟨z, rfl, q2 F2 H1 _ (f1.trans f2) s2 (.enum (G := fun _ => True) (RpL.signs0 z.cps.toList) (fun _ _ _ => trivial) walk_enumX)⟩
      | _ => exact old e2
end
end PP
set_option Elab.async false
set_option linter.all false
set_option maxRecDepth 100000
set_option maxHeartbeats 4000000
namespace PP
open PySem PySem.Spec PyProof.Rows L2

/-! ### a[i], a[lo:hi] -/
def pIx : P2 := fun x y Q => ∃ i, y = .int i ∧ match x with
  | .str z => z.length ≤ sizeLine ∧ ∃ c, atI z.cps.toList i = some c ∧ Q (.val (.str ⟨#[c]⟩))
  | x => ∃ xs p, seqOf x = some xs ∧ atI xs i = some p ∧ Q (.val p)
theorem pIx_mono : ∀ x y Q Q', (∀ e, Q e → Q' e) → pIx x y Q → pIx x y Q' := fun x y Q Q' i ⟨n, e, q⟩ => ⟨n, e, by
  split at q
  · exact ⟨q.1, let ⟨c, e, q⟩ := q.2; ⟨c, e, i _ q⟩⟩
  · exact let ⟨xs, p, e1, e2, q⟩ := q; ⟨xs, p, e1, e2, i _ q⟩⟩
theorem RpL.atI {K : PySem.W.Frag} {H : Hp} {F : Addr → Prop} {xs : List PV} {vs : List V} {i : Int} {p : PV} (r : RpL K H F xs vs) (e : L2.atI xs i = some p) : ∃ v, L2.atI vs i = some v ∧ Rp K H F p v := by
  unfold L2.atI at e ⊢
  rw [← r.length]
  cases h : ixN xs.length i with
  | none => rw [h] at e; cases e
  | some j =>
    rw [h] at e
    exact r.get e
section
variable {S : Sc} {a b : Expr} {Ta Tb : WE} {pos p2 : Pos}
theorem je_ix (ha : JE S a Ta) (hb : JE S b Tb) (hs : PlainIx b := by intro _ _; rfl) : JE S (.Subscript a b pos) (w2 pIx Ta Tb) where
  mono := w2_mono ha.mono hb.mono pIx_mono
  run := fun X W A tk => by
    refine pe_weak (pe_ix ix_seq (ha.run X W A tk) (hb.run X W A tk) hs) fun σ H Q q => ?_
    obtain ⟨F, σp, h, s, q⟩ := q
    refine LE.two (X := X) (E := CE' X.K X.mg F σ H W) (R := fun x y H2 => rIx X.K x y H2 Q) (G := fun ea eb σ2 h2 => pIx (vw σ2 h2 ea) (vw σ2 h2 eb) fun r => CQ X.K F σ H Q r σ2 h2) ha.mono hb.mono s q (fun _ _ _ z => z) fun ea eb σ2 h2 F2 H2 x y f rx ry q => ?_
    obtain ⟨i, ei, q⟩ := q
    have ey : y = .int i := by have := ry.rt; rw [ei] at this; exact this.int
    have rx := rx.rt ry.sm
    subst ey
    generalize vw σ2 h2 ea = px at q rx
    cases px with
    | str z => obtain ⟨l, c, e, q⟩ := q; rw [rx.str]; exact .inr (.inr ⟨z, i, c, rfl, rfl, l, e, q F2 H2 _ f (rsv ry.sm (.str _))⟩)
    | tup ys =>
      obtain ⟨xs, p, e1, e2, q⟩ := q
      cases e1
      obtain ⟨a, vs, rfl, z, r⟩ := rx.tup
      obtain ⟨v, e, rv⟩ := r.atI e2
      exact .inr (.inl ⟨a, vs, i, v, rfl, rfl, z, e, q F2 H2 _ f (rsv ry.sm rv)⟩)
    | lst ys =>
      obtain ⟨xs, p, e1, e2, q⟩ := q
      cases e1
      obtain ⟨a, vs, rfl, z, r⟩ := rx.lst
      obtain ⟨v, e, rv⟩ := r.atI e2
      exact .inl ⟨a, vs, i, v, rfl, rfl, .inl (.inl z), e, q F2 H2 _ f (rsv ry.sm rv)⟩
    | rdl ys =>
      obtain ⟨xs, p, e1, e2, q⟩ := q
      cases e1
      obtain ⟨a, vs, rfl, z, r⟩ := rx.rdl
      obtain ⟨v, e, rv⟩ := r.atI e2
      exact .inl ⟨a, vs, i, v, rfl, rfl, z, e, q F2 H2 _ f (rsv ry.sm rv)⟩
    | _ => obtain ⟨xs, p, e1, _⟩ := q; cases e1
/-! slices -/
abbrev WO := PSt → PH → (Option Int → PSt → PH → Prop) → EPost → Prop
def CO (K : PySem.W.Frag) (F : Ft) (σ : L2.St) (H : Hp) (Q : Option Int → Hp → Prop) : Option Int → PSt → PH → Prop := fun o σp' h' => ∀ F' H', Fr F H F' H' → Sm K H' F' σp' h' σ → Q o H'
def LO (K : PySem.W.Frag) (mg : Str → Option Value) (T : WO) (W : WX) : TO := fun σ H Q => ∃ F σp h, Sm K H F σp h σ ∧ T σp h (CO K F σ H Q) (CE' K mg F σ H W)
structure JO (S : Sc) (e : Option Expr) (T : WO) : Prop where
  run : ∀ X W, At S X → Takes X W → L2.PO X e (LO X.K X.mg T W)
  mono : Mono T
theorem po_weak {X : Cx} {e : Option Expr} {t t' : TO} (p : L2.PO X e t) (i : ∀ σ H Q, t' σ H Q → t σ H Q) : L2.PO X e t' := ⟨fun pins s σ H Q I q => p.run pins s σ H Q I (i σ H Q q)⟩
def wO0 : WO := fun σ h Q _ => Q none σ h
def wO1 (T : WE) : WO := fun σ h Q E => T σ h (fun e σ1 h1 => ∃ i, vw σ1 h1 e = .int i ∧ Q (some i) σ1 h1) E
theorem jo_none : JO S none wO0 where
  mono := fun σ h Q Q' E E' i j q => i _ _ _ q
  run := fun X W A tk => po_weak po_none fun σ H Q ⟨F, σp, h, s, q⟩ => q F H .refl s
theorem jo_some (ha : JE S a Ta) : JO S (some a) (wO1 Ta) where
  mono := fun σ h Q Q' E E' i j q => ha.mono _ _ _ _ _ _ (fun e σ h ⟨n, e, q⟩ => ⟨n, e, i _ _ _ q⟩) j q
  run := fun X W A tk => by
    refine po_weak (po_some (ha.run X W A tk)) fun σ H Q q => ?_
    obtain ⟨F, σp, h, s, q⟩ := q
    refine ⟨F, σp, h, s, ha.mono _ _ _ _ _ _ (fun e σ1 h1 ⟨i, ei, q1⟩ F1 H1 v f1 r1 => ?_) (fun _ _ _ z => z) q⟩
    have := r1.rt; rw [ei] at this
    exact ⟨i, this.int, q1 F1 H1 f1 r1.sm⟩
/-- the items of xs[lo:hi] -/
def cutP (xs : List PV) (lo hi : Option Int) : List PV := (xs.drop (HT.sIx xs.length 0 lo)).take (HT.sIx xs.length xs.length hi - HT.sIx xs.length 0 lo)
theorem RpL.cut {K : PySem.W.Frag} {H : Hp} {F : Addr → Prop} {xs : List PV} {vs : List V} (r : RpL K H F xs vs) (lo hi : Option Int) : RpL K H F (cutP xs lo hi) (cutV vs lo hi) := by
  unfold cutP cutV
  rw [← r.length]
  exact (r.drop _).take _
def pSl (x : PV) (lo hi : Option Int) (Q : EV → Prop) : Prop := match x with
  | .lst xs => Q (.own (.lst (cutP xs lo hi)))
  | .rdl xs => Q (.own (.lst (cutP xs lo hi)))
  | .tup xs => Q (.val (.tup (cutP xs lo hi)))
  | .str z => z.length ≤ sizeLine ∧ Q (.val (.str (cutS z lo hi)))
  | _ => False
def wSl (T : WE) (L U : WO) : WE := fun σ h Q E => T σ h (fun e σ1 h1 => L σ1 h1 (fun lo σ2 h2 => U σ2 h2 (fun hi σ3 h3 => pSl (vw σ3 h3 (pend e)) lo hi fun r => Q r σ3 h3) E) E) E
theorem pSl_mono {x : PV} {lo hi : Option Int} {Q Q' : EV → Prop} (i : ∀ e, Q e → Q' e) (q : pSl x lo hi Q) : pSl x lo hi Q' := by
  cases x <;> first | exact i _ q | exact ⟨q.1, i _ q.2⟩ | exact q
theorem sl_any {X : Cx} : SlR X (fun x lo hi H Q => (rSlL X.K x lo hi H Q ∨ rSlA X.K x lo hi H Q) ∨ ∃ z, x = .str z ∧ z.length ≤ sizeLine ∧ Q (.str (cutS z lo hi)) H) := (sl_list.or sl_tupA).or sl_str
theorem je_sl {lo hi : Option Expr} {L U : WO} (ha : JE S a Ta) (hl : JO S lo L) (hu : JO S hi U) : JE S (.Subscript a (.Slice lo hi none p2) pos) (wSl Ta L U) where
  mono := fun σ h Q Q' E E' i j q => ha.mono _ _ _ _ _ _ (fun e σ h q => hl.mono _ _ _ _ _ _ (fun e σ h q => hu.mono _ _ _ _ _ _ (fun e σ h q => pSl_mono (fun e q => i _ _ _ q) q) j q) j q) j q
  run := fun X W A tk => by
    refine pe_weak (pe_slice sl_any (ha.run X W A tk) (hl.run X W A tk) (hu.run X W A tk)) fun σ H Q q => ?_
    obtain ⟨F, σp, h, s, q⟩ := q
    refine ⟨F, σp, h, s, ha.mono _ _ _ _ _ _ (fun ea σ1 h1 q1 F1 H1 x f1 r1 => ?_) (fun _ _ _ z => z) q⟩
    refine ⟨F1, σ1, h1, r1.sm, hl.mono _ _ _ _ _ _ (fun lo σ2 h2 q2 F2 H2 f2 s2 => ?_) (fun x σ' h' z => z.step f1) q1⟩
    refine ⟨F2, σ2, h2, s2, hu.mono _ _ _ _ _ _ (fun hi σ3 h3 q3 F3 H3 f3 s3 => ?_) (fun x σ' h' z => z.step (f1.trans f2)) q2⟩
    have f := (f1.trans f2).trans f3
    have rx := (r1.re.keep (f2.trans f3).keep).rt s3
    generalize vw σ3 h3 (pend ea) = px at q3 rx
    cases px with
    | lst xs =>
      obtain ⟨a, vs, rfl, z, r⟩ := rx.lst
      exact .inl (.inl ⟨a, vs, rfl, .inl (.inl z), fun p n => q3 F3 _ _ (f.trans (.new n)) ((RS.new (o := .lst (cutP xs lo hi)) s3 n ⟨_, rfl, r.cut lo hi⟩ rfl).early f.dm)⟩)
    | rdl xs =>
      obtain ⟨a, vs, rfl, z, r⟩ := rx.rdl
      exact .inl (.inl ⟨a, vs, rfl, z, fun p n => q3 F3 _ _ (f.trans (.new n)) ((RS.new (o := .lst (cutP xs lo hi)) s3 n ⟨_, rfl, r.cut lo hi⟩ rfl).early f.dm)⟩)
    | tup xs =>
      have t := Rp.tupS rx
      obtain ⟨a, vs, rfl, z, r⟩ := rx.tup
      refine .inl (.inr ⟨a, vs, rfl, z, fun w => ?_, fun w p n => ?_⟩)
      · refine q3 F3 _ _ f (rsv s3 ?_)
        have e : cutP xs lo hi = xs := by
          unfold cutP
          rw [← r.length] at w
          rw [w.1, w.2]
          simp
        rw [e]; exact t
      · exact q3 F3 _ _ (f.trans (.new n)) (rsv (s3.new n) (Rp.newTup s3 n (r.cut lo hi)))
    | str z => rw [rx.str]; exact .inr ⟨z, rfl, q3.1, q3.2 F3 _ _ f (rsv s3 (.str _))⟩
    | _ => exact q3.elim
end

/-! ### calls of the text's own defs -/
abbrev PSp := List PV → PH → (EV → PH → Prop) → (PX → PH → Prop) → Prop
def dom (h : PH) : Addr → Prop := fun b => (h b).isSome = true
def domF (h : PH) : Ft := ⟨dom h, fun _ => False, fun _ => False⟩
def HS (K : PySem.W.Frag) (h : PH) (H : Hp) : Prop := ∀ a o, h a = some o → OR K H (dom h) a o
/-- what a def hands back -/
def RR (K : PySem.W.Frag) (H : Hp) (h' : PH) (H' : Hp) : EV → V → Prop
  | .val p, v => HS K h' H' ∧ Rp K H' (dom h') p v
  | .own o, v => ∃ a u, v = .ref a ∧ h' a = none ∧ H' a = some u ∧ OC K (hide H' a) (dom h') o u ∧ HS K h' (hide H' a) ∧ o.fz = true ∧ H a = none
  | .bor _, _ => False
/-- a plain promise over the layer -/
def LF (K : PySem.W.Frag) (mg : Str → Option Value) (n : Nat) (sp : PSp) : Sp := fun vs H Q E => vs.length = n ∧ ∃ ps h, HS K h H ∧ RpL K H (dom h) ps vs ∧
  sp ps h (fun r h' => ∀ H' v, Fr (domF h) H (domF h') H' → RR K H h' H' r v → Q v H') (fun x h' => ∀ H' cls d, Fr (domF h) H (domF h') H' → HS K h' H' → XR K mg x cls d H' → E cls d H')
def MonoF (sp : PSp) : Prop := ∀ ps h Q Q' E E', (∀ r h, Q r h → Q' r h) → (∀ x h, E x h → E' x h) → sp ps h Q E → sp ps h Q' E'
/-- a def of the text as a caller wants it -/
structure FnS (S : Sc) (x : Str) (n : Nat) (dv : List PV) (sp : PSp) : Prop where
  ex : ∃ f fd ps ds dvs k, S.mg x = some (.ref f) ∧ PySem.W.keepIn S.K (.ref f) = true ∧ Binds S.K fd ps ds ∧ Vals dvs ds ∧ k ≤ S.k ∧ (∀ H F, RpL S.K H F dv dvs) ∧ FnOk S.P S.w S.K S.mg S.base (L2.CX S.P S.w) k f fd ps (LF S.K S.mg n sp)
  mono : MonoF sp
section
variable {X : Cx} {σ : L2.St} {H H' : Hp} {σp : PSt} {h h' : PH} {F : Ft} {K : PySem.W.Frag}
/-- what a callee does not see -/
def ownA (F : Ft) (σp : PSt) (σ : L2.St) : Addr → Prop := fun a => (∃ (i : Nat) (o : PO), σp[i]? = some (some (.own o)) ∧ σ[i]? = some (some (.ref a))) ∨ F.z a
theorem Sm.plain (S : Sm K H F σp h σ) : Plain H (ownA F σp σ) := fun b ob => by
  rcases ob with ⟨i, o, e, eb⟩ | z
  · obtain ⟨a, ea, ⟨u, q, c⟩, f, n, z, _⟩ := S.own i o e
    rw [eb] at ea; cases ea
    cases o with
    | lst xs => obtain ⟨vs, rfl, _⟩ := c; exact .inl ⟨vs, q⟩
    | dK xs => obtain ⟨vs, rfl, _⟩ := c; exact .inr ⟨vs, q⟩
    | ins _ _ => cases z
  · obtain ⟨_, xs, e⟩ := S.zf b z
    cases xs with
    | inl xs => exact .inl ⟨xs, e⟩
    | inr xs => exact .inr ⟨xs, e⟩
theorem Sm.ownF (S : Sm K H F σp h σ) {b : Addr} (o : ownA F σp σ b) : F b ∧ h b = none := by
  rcases o with ⟨i, o, e, eb⟩ | z
  · obtain ⟨a, ea, _, f, n, z, _⟩ := S.own i o e
    rw [eb] at ea; cases ea
    exact ⟨f, n⟩
  · refine ⟨(S.zf b z).1, ?_⟩
    cases q : h b with
    | none => rfl
    | some o => exact absurd z (S.hp b o q).2.2
/-- the heap's part alone, without our lists -/
theorem Sm.hs (S : Sm K H F σp h σ) : HS K h (hid H (ownA F σp σ)) ∧ Keep F H (dom h) (hid H (ownA F σp σ)) := by
  have kp : Keep F H (dom h) (hid H (ownA F σp σ)) := fun b u e n => ⟨by
    rw [hid_out fun o => n (S.ownF o).1]; exact e, fun z => by
    have z : (h b).isSome = true := z
    cases q : h b with
    | none => rw [q] at z; cases z
    | some o => exact n (S.hp b o q).2.1⟩
  refine ⟨fun a o e => ?_, kp⟩
  obtain ⟨r, f, _⟩ := S.hp a o e
  refine r.keep kp fun u q => ?_
  rw [hid_out fun o' => by have := (S.ownF o').2; rw [e] at this; cases this]; exact q
/-- behind a call: our lists come back -/
theorem Sm.back (S : Sm K H F σp h σ) (f : Fr (domF h) (hid H (ownA F σp σ)) (domF h') H') (no : ∀ b, ownA F σp σ b → H' b = none) (hs : HS K h' H') :
    ∃ F' : Ft, Fr F H F' (mrg H H' (ownA F σp σ)) ∧ Sm K (mrg H H' (ownA F σp σ)) F' σp h' σ ∧ Keep (dom h') H' F' (mrg H H' (ownA F σp σ)) ∧ ∀ b, H' b = none → ¬ F' b ∨ ownA F σp σ b := by
  have hd : ∀ b, dom h b → F b := fun b z => by
    have z : (h b).isSome = true := z
    cases q : h b with
    | none => rw [q] at z; cases z
    | some o => exact (S.hp b o q).2.1
  have hh : ∀ b, dom h' b → ∃ u, H' b = some u := fun b z => by
    have z : (h' b).isSome = true := z
    cases q : h' b with
    | none => rw [q] at z; cases z
    | some o => obtain ⟨u, e, _⟩ := hs b o q; exact ⟨u, e⟩
  have hno : ∀ b, ownA F σp σ b → h' b = none := fun b ow => by
    cases q : h' b with
    | none => rfl
    | some o' =>
      obtain ⟨u, e, _⟩ := hs b o' q
      rw [no b ow] at e; cases e
  have fr : Fr F H ⟨fun b => dom h' b ∨ ownA F σp σ b, F.z, F.b⟩ (mrg H H' (ownA F σp σ)) := by
    refine ⟨rfl, rfl, fun b u e n => ?_, fun b z => ?_, fun b z => ?_⟩
    · by_cases o : ownA F σp σ b
      · rw [mrg_in o]; exact e
      · rw [mrg_out o]
        refine f.st b u (by rw [hid_out o]; exact e) (.inl fun z => ?_)
        rcases n with n | n
        · exact n (hd b z)
        · exact o (.inr n)
    · rcases z with z | z
      · rcases f.nw b z with q | q
        · exact .inl (hd b q)
        · by_cases o : ownA F σp σ b
          · exact .inl (S.ownF o).1
          · rw [hid_out o] at q; exact .inr q
      · exact .inl (S.ownF z).1
    · by_cases o : ownA F σp σ b
      · rw [mrg_in o] at z; exact z
      · rw [mrg_out o] at z
        have := f.dm b z
        rw [hid_out o] at this; exact this
  have kp : Keep (dom h') H' (fun b => dom h' b ∨ ownA F σp σ b) (mrg H H' (ownA F σp σ)) := fun b u e n => by
    have nb : ¬ ownA F σp σ b := fun o => by rw [no b o] at e; cases e
    exact ⟨by rw [mrg_out nb]; exact e, fun z => z.elim n nb⟩
  refine ⟨⟨fun b => dom h' b ∨ ownA F σp σ b, F.z, F.b⟩, fr, ⟨fun i p e => ?_, fun i o e => ?_, S.sep, fun b o e => ?_, S.len, fun b z => ?_, fun b z => ?_, fun b z => ?_⟩, kp, fun b e => ?_⟩
  · obtain ⟨v, e1, r⟩ := S.val i p e
    exact ⟨v, e1, r.keep fr.keep⟩
  · obtain ⟨a, ea, r, f1, n, z, nz⟩ := S.own i o e
    have ow : ownA F σp σ a := .inl ⟨i, o, e, ea⟩
    exact ⟨a, ea, r.keep fr.keep (fun u q => by rw [mrg_in ow]; exact q), .inr ow, hno a ow, z, nz⟩
  · have d : dom h' b := by show (h' b).isSome = true; rw [e]; rfl
    refine ⟨(hs b o e).keep kp fun u q => ?_, .inl d, fun z => ?_⟩
    · rw [mrg_out fun o' => by rw [no b o'] at q; cases q]; exact q
    · rw [hno b (.inr z)] at e; cases e
  · rcases z with z | z
    · obtain ⟨u, e⟩ := hh b z
      exact ⟨u, by rw [mrg_out fun o' => by rw [no b o'] at e; cases e]; exact e⟩
    · rw [mrg_in z]; exact S.fin b (S.ownF z).1
  · obtain ⟨f1, xs, q⟩ := S.zf b z
    exact ⟨.inr (.inr z), xs, by rw [mrg_in (.inr z)]; exact q⟩
  · obtain ⟨u, q⟩ := S.bt b z
    by_cases o : ownA F σp σ b
    · exact ⟨u, by rw [mrg_in o]; exact q⟩
    · rw [mrg_out o]
      cases e : H' b with
      | some v => exact ⟨v, rfl⟩
      | none => have := f.dm b e; rw [hid_out o, q] at this; cases this
  · by_cases o : ownA F σp σ b
    · exact .inr o
    · refine .inl fun z => ?_
      rcases z with z | z
      · obtain ⟨u, q⟩ := hh b z; rw [e] at q; cases q
      · exact o z
end
section
variable {S : Sc} {x : Str} {n : Nat} {dv : List PV} {sp : PSp} {e : Expr} {es : List Expr} {U : WA} {p pos : Pos}
theorem mrg_hide {H H' : Hp} {O : Addr → Prop} {a : Addr} (n : ¬ O a) : hide (mrg H H' O) a = mrg H (hide H' a) O := by
  funext b
  by_cases e : b = a
  · subst e; rw [hide_same, mrg_out n, hide_same]
  · rw [hide_ne e]
    by_cases o : O b
    · rw [mrg_in o, mrg_in o]
    · rw [mrg_out o, mrg_out o, hide_ne e]
theorem XR.keep {K : PySem.W.Frag} {mg : Str → Option Value} {x : PX} {cls : Value} {d : Option Addr} {H H' : Hp} (r : XR K mg x cls d H) (k : ∀ a us, H a = some (.xd us) → H' a = some (.xd us)) (kp : Keep (fun _ => False) H (fun _ => False) H') : XR K mg x cls d H' := by
  obtain ⟨C, a, b, z⟩ := r
  exact ⟨C, a, b, z.imp_right fun ⟨dd, us, e, q, r⟩ => ⟨dd, us, e, k _ _ q, r⟩⟩
theorem run_call {X : Cx} {W : WX} (A : At S X) (tk : Takes X W) (hc : S.calm = true) (G : FnS S x n dv sp) {pins : List (Addr × Obj)} {s : Shared} {σ : L2.St} {H : Hp} {F : Ft} {σp : PSt} {h : PH} {ps : List PV} {vs : List V} {us : List Value} {Q : VK} {QP : EV → PSt → PH → Prop} {EP' : EPost} {f : Addr} (ef : S.mg x = some (.ref f))
    (I : Inv X pins σ H s) (r : Vals vs us) (m : Sm X.K H F σp h σ) (rp : RpL X.K H F ps vs) (q : sp (ps ++ dv) h (fun r h3 => QP r σp h3) (fun x h3 => EP' x σp h3))
    (hQ : ∀ r h3 F' H' v, QP r σp h3 → Fr F H F' H' → RS X.K H F' σp h3 σ H' r v → Q v H') (hE : ∀ x h3 F' H' cls d, EP' x σp h3 → Fr F H F' H' → Sm X.K H' F' σp h3 σ → XR X.K X.mg x cls d H' → W cls d σ H') (hl : vs.length + dv.length = n) :
    wpAny (model X.prog X.w) X.A (call (.ref f) us) (EP X pins σ Q) X.xe s := by
  obtain ⟨f', fd, ps', ds, dvs, k, hm, hk, hb, hd, hle, rd, ok⟩ := G.ex
  rw [ef] at hm; cases hm
  obtain ⟨h0, kp⟩ := m.hs
  have okX : FnOk X.prog X.w X.K X.mg X.base (L2.CX X.prog X.w) k f fd ps' (LF X.K X.mg n sp) := by rw [A.P, A.w, A.K, A.mg, A.base]; exact ok
  have hbX : Binds X.K fd ps' ds := by rw [A.K]; exact hb
  refine run_hid (O := ownA F σp σ) okX ((A.room hc).mono hle) hbX hd tk m.plain I r ⟨?_, ps ++ dv, h, h0, (rp.keep kp).append (A.K ▸ rd _ _), ?_⟩
  · rw [List.length_append, ← (rd (fun _ => none) (fun _ => False)).length]; exact hl
  · refine G.mono _ _ _ _ _ _ (fun r h3 q3 H' v fr rr no => ?_) (fun x h3 q3 H' cls d fr hs xr no => ?_) q
    · cases r with
      | val p =>
        obtain ⟨hs, rv⟩ := rr
        obtain ⟨F', f', s', k', _⟩ := m.back fr no hs
        exact hQ _ _ F' _ v q3 f' (rsv s' (rv.keep k'))
      | bor i => exact rr.elim
      | own o =>
        obtain ⟨a, u, rfl, na, ea, c, hs, z, wn⟩ := rr
        have aO : ¬ ownA F σp σ a := fun o => by rw [no a o] at ea; cases ea
        rw [hid_out aO] at wn
        -- the heap without the new list
        have fr' : Fr (domF h) (hid H (ownA F σp σ)) (domF h3) (hide H' a) := ⟨rfl, rfl, fun b u e n => by
          rw [hide_ne fun z => by rw [z] at e; have := (hid_some e).2; rw [wn] at this; cases this]
          exact fr.st b u e n, fr.nw, fun b e => by
            by_cases z : b = a
            · subst z; rw [hid_out aO]; exact wn
            · rw [hide_ne z] at e; exact fr.dm b e⟩
        obtain ⟨F', f', s', k', nf⟩ := m.back fr' (fun b o => by
          by_cases e : b = a
          · subst e; exact hide_same
          · rw [hide_ne e]; exact no b o) hs
        have nF : ¬ F' a := by
          rcases nf a hide_same with z | z
          · exact z
          · exact absurd z aO
        refine hQ _ _ F' _ _ q3 (f'.trans ?_) ⟨a, u, rfl, nF, by rw [mrg_out aO]; exact ea, ?_, ?_, z, wn⟩
        · refine ⟨rfl, rfl, fun b u e n => ?_, fun b z => .inl z, fun b e => ?_⟩
          · by_cases o : ownA F σp σ b
            · rw [mrg_in o] at e ⊢; exact e
            · rw [mrg_out o] at e ⊢; exact (hide_some e).2
          · by_cases o : ownA F σp σ b
            · rw [mrg_in o] at e ⊢; exact e
            · rw [mrg_out o] at e ⊢
              by_cases z : b = a
              · subst z; exact hide_same
              · rw [hide_ne z]; exact e
        · rw [mrg_hide aO]; exact c.keep k'
        · rw [mrg_hide aO]; exact s'
    · obtain ⟨F', f', s', k', _⟩ := m.back fr no hs
      refine hE _ _ F' _ cls d q3 f' s' (xr.keep (fun a us e => by rw [mrg_out fun o => by rw [no a o] at e; cases e]; exact e) fun b u e _ => ⟨by rw [mrg_out fun o => by rw [no b o] at e; cases e]; exact e, fun z => z⟩)
theorem wpl {U : WA} {X : Cx} {W : WX} {σ : L2.St} {H : Hp} : True := trivial
theorem REL.len {K : PySem.W.Frag} {F : Ft} {σ : L2.St} {H : Hp} : ∀ {es : List EV} {vs : List V}, REL K F σ H es vs → es.length = vs.length
  | _, _, .nil => rfl
  | _, _, .cons _ b => by simp [REL.len b]
def wCallN (m : Nat) (sp : PSp) (dv : List PV) (U : WA) : WE := fun σ h Q E => U σ h (fun es σ1 h1 => es.length = m ∧ shareL es σ1 h1 fun ps σ2 h2 => sp (ps ++ dv) h2 (fun r h3 => Q r σ2 h3) (fun x h3 => E x σ2 h3)) E
theorem wCallN_mono {m : Nat} {sp : PSp} {dv : List PV} {U : WA} (mu : Mono U) (ms : MonoF sp) : Mono (wCallN m sp dv U) := fun σ h Q Q' E E' i j q => mu _ _ _ _ _ _ (fun es σ h ⟨l, q⟩ => ⟨l, shareL_mono (fun ps σ h q => ms _ _ _ _ _ _ (fun r h q => i _ _ _ q) (fun x h q => j _ _ _ q) q) q⟩) j q
/-- f(e, ..) of a def of the text -/
theorem je_call {m : Nat} (G : FnS S x n dv sp) (ha : JA S (e :: es) U) (hn : m + dv.length = n := by rfl) (hc : S.calm = true := by rfl) (hg : S.sc.names.lookup x = some .globalImplicit := by rfl) (hdb : (x == ("__debug__" : Str)) = false := by decide)
    (he : ∀ env, starEach (e :: es) env = (false, eval e env) :: starEach es env := by intro _; rfl) (hpl : ∀ env, (backTo pos (starEach es env)).any (·.1) = false := by intro _; rfl) : JE S (.Call (.Name x p) (e :: es) [] pos) (wCallN m sp dv U) where
  mono := wCallN_mono ha.mono G.mono
  run := fun X W A tk => ⟨fun pins s σ H Q I q => by
    obtain ⟨F, σp, h, m0, q⟩ := q
    obtain ⟨f, fd, ps', ds, dvs, k, hm, hk, hb, hd, hle, rd, ok⟩ := G.ex
    refine wpAny_Call_Name_kw (ld_glob I (gl_of A hg) (by rw [A.mg]; exact hm) ?_ hdb)
    refine PySem.W.callWith_K (h₀ := X.base) I.ok.mod.kin (by rw [A.K]; exact hk) (thn ((ha.run X W A tk).run pos pins s σ H (fun vs H1 => ∃ F1 ps σ2 h2, Sm X.K H1 F1 σ2 h2 σ ∧ RpL X.K H1 F1 ps vs ∧ vs.length + dv.length = n ∧ Fr F H F1 H1 ∧ sp (ps ++ dv) h2 (fun r h3 => CQ X.K F σ H Q r σ2 h3) (fun x h3 => CE' X.K X.mg F σ H W x σ2 h3)) I ⟨F, σp, h, m0, ?_⟩) fun us s1 ⟨vs, H1, I1, r, F1, ps, σ2, h2, m2, rp, hl, f1, q2⟩ => ⟨I1.kIn, ?_⟩) (he _) (hpl _)
    · refine ha.mono _ _ _ _ _ _ (fun es σ1 h1 ⟨l, q1⟩ F1 H1 vs f1 s1 r1 => ?_) (fun _ _ _ z => z) q
      obtain ⟨F2, ps, σ2, h2, s2, rl, q2, f2⟩ := shareL_ok s1 r1 q1
      exact ⟨F2, ps, σ2, h2, s2, rl, by rw [← r1.len, l]; exact hn, f1.trans f2, q2⟩
    · exact run_call A tk hc G hm I1 r m2 rp q2 (fun r h3 F' H' v q f r => q F' H' v (f1.trans f) (r.early f1.dm)) (fun x h3 F' H' cls d q f s r => q F' H' cls d (f1.trans f) s r) hl⟩
end
end PP
set_option Elab.async false
set_option linter.all false
set_option maxRecDepth 100000
set_option maxHeartbeats 4000000
namespace PP
open PySem PySem.Spec PyProof.Rows L2

/-! ### stores -/
section
variable {K : PySem.W.Frag} {H H0 : Hp} {F : Ft} {σp : PSt} {h : PH} {σ : L2.St}
theorem getElem?_set' {α : Type} {l : List α} {i j : Nat} {x y : α} (e : (l.set i x)[j]? = some y) : (j = i ∧ y = x ∧ i < l.length) ∨ (j ≠ i ∧ l[j]? = some y) := by
  by_cases q : i = j
  · subst q
    by_cases z : i < l.length
    · rw [List.getElem?_set_self z] at e; cases e; exact .inl ⟨rfl, rfl, z⟩
    · rw [List.getElem?_eq_none (by simpa using z)] at e; cases e
  · rw [List.getElem?_set_ne q] at e; exact .inr ⟨fun z => q z.symm, e⟩
theorem Sm.lt (S : Sm K H F σp h σ) {i : Nat} {x : Option SV} (e : σp[i]? = some x) : i < σ.length := by rw [← S.len]; exact (List.getElem?_eq_some_iff.mp e).1
theorem Sm.setVal (S : Sm K H F σp h σ) {i : Nat} {p : PV} {v : V} (r : Rp K H F p v) : Sm K H F (σp.set i (some (.val p))) h (σ.set i (some v)) where
  val := fun j q e => by
    replace e := getElem?_set' e
    rcases e with ⟨rfl, e, lt⟩ | ⟨hj, e⟩
    · cases e
      have : j < σ.length := by rw [← S.len]; exact lt
      exact ⟨v, List.getElem?_set_self this, r⟩
    · obtain ⟨w', a, b⟩ := S.val j q e
      exact ⟨w', by rw [List.getElem?_set_ne (Ne.symm hj)]; exact a, b⟩
  own := fun j o e => by
    replace e := getElem?_set' e
    rcases e with ⟨rfl, e, lt⟩ | ⟨hj, e⟩
    · cases e
    · obtain ⟨a, b, c⟩ := S.own j o e
      exact ⟨a, by rw [List.getElem?_set_ne (Ne.symm hj)]; exact b, c⟩
  sep := fun j l o o' a e1 e2 e3 e4 => by
    replace e1 := getElem?_set' e1
    rcases e1 with ⟨rfl, e1, lt⟩ | ⟨hj, e1⟩
    · cases e1
    · replace e2 := getElem?_set' e2
      rcases e2 with ⟨rfl, e2, lt⟩ | ⟨hl, e2⟩
      · cases e2
      · rw [List.getElem?_set_ne (Ne.symm hj)] at e3
        rw [List.getElem?_set_ne (Ne.symm hl)] at e4
        exact S.sep j l o o' a e1 e2 e3 e4
  hp := S.hp
  len := by simpa using S.len
  fin := S.fin
  zf := S.zf
  bt := S.bt
/-- with the address a -/
def Ft.add (F : Ft) (a : Addr) : Ft := ⟨fun b => F b ∨ b = a, F.z, F.b⟩
theorem Sm.setOwn {i : Nat} {o : PO} {a : Addr} {u : HO} (S : Sm K (hide H a) F σp h σ) (nf : ¬ F a) (ea : H a = some u) (c : OC K (hide H a) F o u) (z : o.fz = true) (nb : ¬ F.b a) : Sm K H (F.add a) (σp.set i (some (.own o))) h (σ.set i (some (.ref a))) where
  val := fun j q e => by
    replace e := getElem?_set' e
    rcases e with ⟨rfl, e, lt⟩ | ⟨hj, e⟩
    · cases e
    · obtain ⟨w', a, b⟩ := S.val j q e
      exact ⟨w', by rw [List.getElem?_set_ne (Ne.symm hj)]; exact a, b.keep .hideF⟩
  own := fun j o' e => by
    replace e := getElem?_set' e
    rcases e with ⟨rfl, e, lt⟩ | ⟨hj, e⟩
    · cases e
      have : j < σ.length := by rw [← S.len]; exact lt
      refine ⟨a, List.getElem?_set_self this, ⟨u, ea, c.keep .hideF⟩, .inr rfl, ?_, z, fun w => nf (S.zf a w).1, nb⟩
      cases q : h a with
      | none => rfl
      | some o'' => exact absurd (S.hp a o'' q).2.1 nf
    · obtain ⟨b, e1, r, f, n, q⟩ := S.own j o' e
      exact ⟨b, by rw [List.getElem?_set_ne (Ne.symm hj)]; exact e1, r.keep .hideF (fun u w => (hide_some w).2), .inl f, n, q⟩
  sep := fun j l o' o'' b e1 e2 e3 e4 => by
    replace e1 := getElem?_set' e1
    rcases e1 with ⟨rfl, e1, lt⟩ | ⟨hj, e1⟩
    · replace e2 := getElem?_set' e2
      rcases e2 with ⟨rfl, e2, lt⟩ | ⟨hl, e2⟩
      · rfl
      · obtain ⟨c1, d1, r, f, _⟩ := S.own l o'' e2
        rw [List.getElem?_set_ne (Ne.symm hl)] at e4
        rw [d1] at e4; cases e4
        replace e3 := getElem?_set' e3
        rcases e3 with ⟨_, e3, lt⟩ | ⟨w, _⟩
        · cases e3; exact absurd f nf
        · exact absurd rfl w
    · replace e2 := getElem?_set' e2
      rcases e2 with ⟨rfl, e2, lt⟩ | ⟨hl, e2⟩
      · obtain ⟨c1, d1, r, f, _⟩ := S.own j o' e1
        rw [List.getElem?_set_ne (Ne.symm hj)] at e3
        rw [d1] at e3; cases e3
        replace e4 := getElem?_set' e4
        rcases e4 with ⟨_, e4, lt⟩ | ⟨w, _⟩
        · cases e4; exact absurd f nf
        · exact absurd rfl w
      · rw [List.getElem?_set_ne (Ne.symm hj)] at e3
        rw [List.getElem?_set_ne (Ne.symm hl)] at e4
        exact S.sep j l o' o'' b e1 e2 e3 e4
  hp := fun b o' e => by
    obtain ⟨r, f, n⟩ := S.hp b o' e
    exact ⟨r.keep .hideF fun u w => (hide_some w).2, .inl f, n⟩
  len := by simpa using S.len
  fin := fun b f => by
    rcases f with f | rfl
    · obtain ⟨u, e⟩ := S.fin b f; exact ⟨u, (hide_some e).2⟩
    · exact ⟨u, ea⟩
  zf := fun b q => by
    obtain ⟨f, xs, e⟩ := S.zf b q
    exact ⟨.inl f, xs, (hide_some e).2⟩
  bt := fun b q => let ⟨u, e⟩ := S.bt b q; ⟨u, (hide_some e).2⟩
theorem Fr.add {F1 : Ft} {H1 : Hp} {a : Addr} (f : Fr F H F1 H1) (n : H a = none) : Fr F H (F1.add a) H1 := ⟨f.zz, f.bb, f.st, fun b z => z.elim (f.nw b) fun z => .inr (by rw [z]; exact n), f.dm⟩
/-- a list of a name is changed in place -/
theorem Sm.setIn (S : Sm K H F σp h σ) {i : Nat} {o o' : PO} {a : Addr} {u : HO} (e : σp[i]? = some (some (.own o))) (ea : σ[i]? = some (some (.ref a))) (c : OC K H F o' u) (z : o'.fz = true) :
    Sm K (upd H a u) F (σp.set i (some (.own o'))) h σ ∧ Fr F H F (upd H a u) := by
  obtain ⟨a', ea', _, f, n, _, nz, nb⟩ := S.own i o e
  rw [ea] at ea'; cases ea'
  have fr : Fr F H F (upd H a u) := .mut f nz
  have other : ∀ b v, b ≠ a → H b = some v → upd H a u b = some v := fun b v hb q => by rw [upd_ne hb]; exact q
  refine ⟨⟨fun j p q => ?_, fun j o'' q => ?_, fun j l o1 o2 b q1 q2 q3 q4 => ?_, fun b o'' q => ?_, by simpa using S.len, fun b q => ?_, fun b q => ?_, fun b q => ?_⟩, fr⟩
  · replace q := getElem?_set' q
    rcases q with ⟨rfl, q, lt⟩ | ⟨hj, q⟩
    · cases q
    · obtain ⟨v, q1, q2⟩ := S.val j p q
      exact ⟨v, q1, q2.keep fr.keep⟩
  · replace q := getElem?_set' q
    rcases q with ⟨rfl, q, lt⟩ | ⟨hj, q⟩
    · cases q
      exact ⟨a, ea, ⟨u, upd_same, c.keep fr.keep⟩, f, n, z, nz, nb⟩
    · obtain ⟨b, q1, q2, q3⟩ := S.own j o'' q
      have hb : b ≠ a := fun w => hj (S.sep j i o'' o b q e q1 (by rw [w]; exact ea))
      exact ⟨b, q1, q2.keep fr.keep (fun v w => other b v hb w), q3⟩
  · have fix : ∀ {j : Nat} {o1 : PO}, (σp.set i (some (SV.own o')))[j]? = some (some (SV.own o1)) → ∃ o3, σp[j]? = some (some (.own o3)) := fun {j o1} q => by
      replace q := getElem?_set' q
      rcases q with ⟨rfl, q, lt⟩ | ⟨hj, q⟩
      · exact ⟨o, e⟩
      · exact ⟨o1, q⟩
    obtain ⟨o3, q1⟩ := fix q1
    obtain ⟨o4, q2⟩ := fix q2
    exact S.sep j l o3 o4 b q1 q2 q3 q4
  · obtain ⟨q1, q2⟩ := S.hp b o'' q
    have hb : b ≠ a := fun w => by rw [w, n] at q; cases q
    exact ⟨q1.keep fr.keep fun v w => other b v hb w, q2⟩
  · obtain ⟨v, w⟩ := S.fin b q
    by_cases hb : b = a
    · exact ⟨u, by rw [hb]; exact upd_same⟩
    · exact ⟨v, other b v hb w⟩
  · obtain ⟨q1, xs, q2⟩ := S.zf b q
    exact ⟨q1, xs, other b _ (fun w => nz (by rw [← w]; exact q)) q2⟩
  · obtain ⟨v, w⟩ := S.bt b q
    by_cases hb : b = a
    · exact ⟨u, by rw [hb]; exact upd_same⟩
    · exact ⟨v, other b v hb w⟩
/-- an object of the heap is changed in place -/
theorem Sm.setHp (S : Sm K H F σp h σ) {o o' : PO} {a : Addr} {u : HO} (e : h a = some o) (c : OC K H F o' u) : Sm K (upd H a u) F σp (updP h a o') σ ∧ Fr F H F (upd H a u) := by
  obtain ⟨_, f, nz⟩ := S.hp a o e
  have fr : Fr F H F (upd H a u) := .mut f nz
  have other : ∀ b v, b ≠ a → H b = some v → upd H a u b = some v := fun b v hb q => by rw [upd_ne hb]; exact q
  refine ⟨⟨fun j p q => ?_, fun j o'' q => ?_, S.sep, fun b o'' q => ?_, S.len, fun b q => ?_, fun b q => ?_, fun b q => ?_⟩, fr⟩
  · obtain ⟨v, q1, q2⟩ := S.val j p q
    exact ⟨v, q1, q2.keep fr.keep⟩
  · obtain ⟨b, q1, q2, q3, q4, q5⟩ := S.own j o'' q
    have hb : b ≠ a := fun w => by rw [w, e] at q4; cases q4
    exact ⟨b, q1, q2.keep fr.keep (fun v w => other b v hb w), q3, by rw [updP_ne hb]; exact q4, q5⟩
  · by_cases hb : b = a
    · subst hb
      rw [updP_same] at q; cases q
      exact ⟨⟨u, upd_same, c.keep fr.keep⟩, f, nz⟩
    · rw [updP_ne hb] at q
      obtain ⟨q1, q2⟩ := S.hp b o'' q
      exact ⟨q1.keep fr.keep fun v w => other b v hb w, q2⟩
  · obtain ⟨v, w⟩ := S.fin b q
    by_cases hb : b = a
    · exact ⟨u, by rw [hb]; exact upd_same⟩
    · exact ⟨v, other b v hb w⟩
  · obtain ⟨q1, xs, q2⟩ := S.zf b q
    exact ⟨q1, xs, other b _ (fun w => nz (by rw [← w]; exact q)) q2⟩
  · obtain ⟨v, w⟩ := S.bt b q
    by_cases hb : b = a
    · exact ⟨u, by rw [hb]; exact upd_same⟩
    · exact ⟨v, other b v hb w⟩
end

/-! ### targets -/
abbrev WG := PV → PSt → PH → (PSt → PH → Prop) → Prop
abbrev WGs := List PV → PSt → PH → (PSt → PH → Prop) → Prop
def CG (K : PySem.W.Frag) (ix : List Nat) (F : Ft) (σ : L2.St) (H : Hp) (Q : L2.St → Hp → Prop) : PSt → PH → Prop := fun σp' h' => ∀ F' H' σ', Fr F H F' H' → Sm K H' F' σp' h' σ' → (∀ j, j ∉ ix → σ'[j]? = σ[j]?) → σ'.length = σ.length → Q σ' H'
def LG (K : PySem.W.Frag) (ix : List Nat) (T : WG) : TG := fun v σ H Q => ∃ F σp h p, Sm K H F σp h σ ∧ Rp K H F p v ∧ T p σp h (CG K ix F σ H Q)
def LGs (K : PySem.W.Frag) (ix : List Nat) (T : WGs) : TGs := fun vs σ H Q => ∃ F σp h ps, Sm K H F σp h σ ∧ RpL K H F ps vs ∧ T ps σp h (CG K ix F σ H Q)
structure JG (S : Sc) (tg : Expr) (ix : List Nat) (T : WG) : Prop where
  run : ∀ X, At S X → PG X tg (LG X.K ix T)
  mono : ∀ p σ h Q Q', (∀ σ h, Q σ h → Q' σ h) → T p σ h Q → T p σ h Q'
structure JGs (S : Sc) (tg : List Expr) (ix : List Nat) (T : WGs) : Prop where
  run : ∀ X, At S X → PGs X tg (LGs X.K ix T)
  mono : ∀ p σ h Q Q', (∀ σ h, Q σ h → Q' σ h) → T p σ h Q → T p σ h Q'
theorem pg_weak {X : Cx} {tg : Expr} {t t' : TG} (p : PG X tg t) (i : ∀ v σ H Q, t' v σ H Q → t v σ H Q) : PG X tg t' := ⟨fun pins s σ H v u Q I r q => p.run pins s σ H v u Q I r (i v σ H Q q)⟩
theorem pgs_weak {X : Cx} {tg : List Expr} {t t' : TGs} (p : PGs X tg t) (i : ∀ v σ H Q, t' v σ H Q → t v σ H Q) : PGs X tg t' := ⟨fun pins s σ H v u Q I r q => p.run pins s σ H v u Q I r (i v σ H Q q)⟩
def gN (i : Nat) : WG := fun p σ h Q => Q (σ.set i (some (.val p))) h
def gT0 : WGs := fun ps σ h Q => ps = [] ∧ Q σ h
def gTc (T : WG) (U : WGs) : WGs := fun ps σ h Q => ∃ p r, ps = p :: r ∧ T p σ h fun σ1 h1 => U r σ1 h1 Q
def gT (n : Nat) (U : WGs) : WG := fun p σ h Q => ∃ ps, p = .tup ps ∧ ps.length = n ∧ U ps σ h Q
section
variable {S : Sc} {x : Str} {pos : Pos}
def fnOk (S : Sc) (x : Str) : Prop := S.fn x = true ∨ S.sc.names.lookup x = some .local
theorem jg_n (i : Nat) (hN : S.N[i]? = some x := by rfl) (hx : Loc S.sc x := by first | exact Or.inl rfl | exact Or.inr rfl) (hf : fnOk S x := by first | exact Or.inl rfl | exact Or.inr rfl) : JG S (.Name x pos) [i] (gN i) where
  mono := fun p σ h Q Q' i q => i _ _ q
  run := fun X A => by
    refine pg_weak (pg_name (i := i) A.nd (by rw [A.N]; exact hN) (loc_of A hx) ?_) fun v σ H Q ⟨F, σp, h, p, s, r, q⟩ => ?_
    · exact hf.imp (A.fn x) fun z => by rw [A.sc]; exact z
    · exact q F H _ .refl (s.setVal r) (fun j hj => List.getElem?_set_ne (fun z => hj (by simp [z]))) (by simp)
theorem jgs_nil : JGs S [] [] gT0 where
  mono := fun p σ h Q Q' i ⟨e, q⟩ => ⟨e, i _ _ q⟩
  run := fun X A => pgs_weak pgs_nil fun v σ H Q ⟨F, σp, h, p, s, r, e, q⟩ => by
    subst e
    cases r
    exact ⟨rfl, q F H σ .refl s (fun _ _ => rfl) rfl⟩
theorem jgs_cons {e : Expr} {es : List Expr} {T : WG} {U : WGs} {ix iy : List Nat} (h1 : JG S e ix T) (h2 : JGs S es iy U) (hs : ∀ env, (assignEach (e :: es) env).map (·.2) = assign e env :: (assignEach es env).map (·.2) := by intro _; rfl) : JGs S (e :: es) (ix ++ iy) (gTc T U) where
  mono := fun p σ h Q Q' i ⟨a, b, e, q⟩ => ⟨a, b, e, h1.mono _ _ _ _ _ (fun σ h q => h2.mono _ _ _ _ _ i q) q⟩
  run := fun X A => by
    refine pgs_weak (pgs_cons (h1.run X A) (h2.run X A) (hs _)) fun v σ H Q q => ?_
    obtain ⟨F, σp, h, ps, s, r, p, rr, e, q⟩ := q
    subst e
    cases r with
    | cons ra rb =>
      refine ⟨_, _, rfl, F, σp, h, p, s, ra, h1.mono _ _ _ _ _ (fun σ1 h1 q1 F1 H1 σ' f1 s1 k1 l1 => ?_) q⟩
      refine ⟨F1, σ1, h1, rr, s1, rb.keep f1.keep, h2.mono _ _ _ _ _ (fun σ2 h2 q2 F2 H2 σ'' f2 s2 k2 l2 => ?_) q1⟩
      exact q2 F2 H2 σ'' (f1.trans f2) s2 (fun j hj => (k2 j fun z => hj (List.mem_append_right _ z)).trans (k1 j fun z => hj (List.mem_append_left _ z))) (l2.trans l1)
theorem jg_t {es : List Expr} {k n : Nat} {U : WGs} {ix : List Nat} (h : JGs S es ix U) (hc : S.calm = true := by rfl) (hn : ∀ env, (assignEach es env).length = n := by intro _; rfl) (hst : ∀ env, (assignEach es env).findIdx? (·.1) = none := by intro _; rfl) : JG S (.Tuple es k pos) ix (gT n U) where
  mono := fun p σ h' Q Q' i ⟨a, e, l, q⟩ => ⟨a, e, l, h.mono _ _ _ _ _ i q⟩
  run := fun X A => by
    refine pg_weak (pg_tup (A.calm hc) (h.run X A) (hn _) (hst _)) fun v σ H Q q => ?_
    obtain ⟨F, σp, h', p, s, r, ps, e, l, q⟩ := q
    subst e
    cases r with
    | tup fz rl => exact ⟨_, _, rfl, fz.elim (fun z => .inl (.inl z.1)) .inr, by rw [← rl.length]; exact l, F, σp, h', ps, s, rl, q⟩
end

/-! ### comprehensions -/
def wipeP (σ : PSt) : List Nat → PSt
  | [] => σ
  | v :: vs => (wipeP σ vs).set v none
/-- the block's own names are as they were ahead of it (a list that one of them held is gone) -/
def backP (σ0 σ : PSt) : List Nat → PSt
  | [] => σ
  | v :: vs => (backP σ0 σ vs).set v (match σ0[v]? with | some (some (.val p)) => some (.val p) | _ => none)
section
variable {K : PySem.W.Frag} {H : Hp} {F : Ft} {σp σ0 : PSt} {h : PH} {σ σ' : L2.St}
theorem Sm.setNone (S : Sm K H F σp h σ) (i : Nat) : Sm K H F (σp.set i none) h (σ.set i none) where
  val := fun j q e => by
    replace e := getElem?_set' e
    rcases e with ⟨rfl, e, lt⟩ | ⟨hj, e⟩
    · cases e
    · obtain ⟨w', a, b⟩ := S.val j q e
      exact ⟨w', by rw [List.getElem?_set_ne (Ne.symm hj)]; exact a, b⟩
  own := fun j o e => by
    replace e := getElem?_set' e
    rcases e with ⟨rfl, e, lt⟩ | ⟨hj, e⟩
    · cases e
    · obtain ⟨a, b, c⟩ := S.own j o e
      exact ⟨a, by rw [List.getElem?_set_ne (Ne.symm hj)]; exact b, c⟩
  sep := fun j l o o' a e1 e2 e3 e4 => by
    replace e1 := getElem?_set' e1
    rcases e1 with ⟨rfl, e1, lt⟩ | ⟨hj, e1⟩
    · cases e1
    · replace e2 := getElem?_set' e2
      rcases e2 with ⟨rfl, e2, lt⟩ | ⟨hl, e2⟩
      · cases e2
      · rw [List.getElem?_set_ne (Ne.symm hj)] at e3
        rw [List.getElem?_set_ne (Ne.symm hl)] at e4
        exact S.sep j l o o' a e1 e2 e3 e4
  hp := S.hp
  len := by simpa using S.len
  fin := S.fin
  zf := S.zf
  bt := S.bt
theorem Sm.wipe (S : Sm K H F σp h σ) : ∀ vs : List Nat, Sm K H F (wipeP σp vs) h (L2.wipe σ vs)
  | [] => S
  | v :: vs => (Sm.wipe S vs).setNone v
theorem wipe_get : ∀ (vs : List Nat) (σ : L2.St) (j : Nat), (L2.wipe σ vs)[j]? = if j ∈ vs ∧ j < σ.length then some none else σ[j]?
  | [], σ, j => by simp [L2.wipe]
  | v :: vs, σ, j => by
    show ((L2.wipe σ vs).set v none)[j]? = _
    have hl : (L2.wipe σ vs).length = σ.length := wipe_length σ vs
    by_cases e : v = j
    · subst e
      by_cases z : v < σ.length
      · rw [List.getElem?_set_self (by rw [hl]; exact z), if_pos ⟨by simp, z⟩]
      · rw [List.getElem?_eq_none (by simpa [hl] using z), if_neg (fun w => z w.2), List.getElem?_eq_none (by omega)]
    · rw [List.getElem?_set_ne e, wipe_get vs σ j]
      have : (j ∈ v :: vs ∧ j < σ.length) = (j ∈ vs ∧ j < σ.length) := by simp [Ne.symm e]
      simp only [this]
theorem wipe_same {vs : List Nat} (k : ∀ j, j ∉ vs → σ'[j]? = σ[j]?) (l : σ'.length = σ.length) : L2.wipe σ' vs = L2.wipe σ vs := by
  apply List.ext_getElem?
  intro j
  rw [wipe_get, wipe_get, l]
  by_cases e : j ∈ vs ∧ j < σ.length
  · rw [if_pos e, if_pos e]
  · rw [if_neg e, if_neg e]
    by_cases z : j ∈ vs
    · have : ¬ j < σ.length := fun w => e ⟨z, w⟩
      rw [List.getElem?_eq_none (by omega), List.getElem?_eq_none (by omega)]
    · exact k j z
theorem wipe_wipe {vs : List Nat} : L2.wipe (L2.wipe σ vs) vs = L2.wipe σ vs := wipe_same (fun j hj => by rw [wipe_get, if_neg (fun z => hj z.1)]) (wipe_length _ _)
/-- behind the block -/
theorem Sm.unwipe {F0 : Ft} {H0 : Hp} {h0 : PH} (S0 : Sm K H0 F0 σ0 h0 σ) (k : Keep F0 H0 F H) : ∀ (vs ws : List Nat), (vs ++ ws).Nodup → Sm K H F σp h (L2.wipe σ (vs ++ ws)) → Sm K H F (backP σ0 σp vs) h (L2.wipe σ ws)
  | [], ws, _, S => S
  | v :: vs, ws, nd, S => by
    have S' : Sm K H F σp h (L2.wipe σ (vs ++ (v :: ws))) := by
      have e : L2.wipe σ (vs ++ (v :: ws)) = L2.wipe σ (v :: vs ++ ws) := by
        apply List.ext_getElem?
        intro j
        rw [wipe_get, wipe_get]
        have hm : (j ∈ vs ++ (v :: ws)) ↔ (j ∈ v :: vs ++ ws) := (List.perm_middle (a := v) (l₁ := vs) (l₂ := ws)).mem_iff
        simp only [hm]
      rw [e]; exact S
    have nd' : (vs ++ (v :: ws)).Nodup := (List.perm_middle (a := v) (l₁ := vs) (l₂ := ws)).nodup_iff.mpr nd
    have ih := Sm.unwipe S0 k vs (v :: ws) nd' S'
    have ih : Sm K H F (backP σ0 σp vs) h ((L2.wipe σ ws).set v none) := ih
    show Sm K H F ((backP σ0 σp vs).set v _) h (L2.wipe σ ws)
    -- what slot v holds
    have base : Sm K H F ((backP σ0 σp vs).set v none) h (L2.wipe σ ws) := by
      have q := ih.setNone v
      refine ⟨fun j p e => ?_, fun j o e => ?_, fun j l o o' a e1 e2 e3 e4 => ?_, q.hp, by have := q.len; simpa using this, q.fin, q.zf, q.bt⟩
      · replace e := getElem?_set' e
        rcases e with ⟨rfl, e, lt⟩ | ⟨hj, e2⟩
        · cases e
        · obtain ⟨w', a, b⟩ := ih.val j p e2
          rw [List.getElem?_set_ne (Ne.symm hj)] at a
          exact ⟨w', a, b⟩
      · replace e := getElem?_set' e
        rcases e with ⟨rfl, e, lt⟩ | ⟨hj, e2⟩
        · cases e
        · obtain ⟨w', a, b⟩ := ih.own j o e2
          rw [List.getElem?_set_ne (Ne.symm hj)] at a
          exact ⟨w', a, b⟩
      · replace e1 := getElem?_set' e1
        rcases e1 with ⟨rfl, e1, lt⟩ | ⟨hj, e1⟩
        · cases e1
        · replace e2 := getElem?_set' e2
          rcases e2 with ⟨rfl, e2, lt⟩ | ⟨hl, e2⟩
          · cases e2
          · exact ih.sep j l o o' a e1 e2 (by rw [List.getElem?_set_ne (Ne.symm hj)]; exact e3) (by rw [List.getElem?_set_ne (Ne.symm hl)]; exact e4)
    have hw : v ∉ ws := fun z => (List.nodup_cons.mp nd).1 (List.mem_append_right _ z)
    split
    · rename_i p e
      obtain ⟨u, eu, r⟩ := S0.val v p e
      have q := base.setVal (i := v) (r.keep k)
      rw [List.set_set] at q
      have e2 : (L2.wipe σ ws).set v (some u) = L2.wipe σ ws := by
        apply List.ext_getElem?
        intro j
        by_cases hj : v = j
        · subst hj
          have hl : v < (L2.wipe σ ws).length := by rw [wipe_length]; exact (List.getElem?_eq_some_iff.mp eu).1
          rw [List.getElem?_set_self hl, wipe_get, if_neg (fun z => hw z.1)]; exact eu.symm
        · rw [List.getElem?_set_ne hj]
      rw [e2] at q
      exact q
    · exact base
end
/-- one turn of a comprehension -/
def lcStep (tgt : WG) (cond : WT) (elt : WE) (x : PV) (acc : List PV) (σ : PSt) (h : PH) (N : List PV → PSt → PH → Prop) : Prop :=
  tgt x σ h fun σ1 h1 => cond σ1 h1 (fun b σ2 h2 => if b = true then elt σ2 h2 (fun e σ3 h3 => share e σ3 h3 fun p σ4 h4 => acc.length < sizeLine ∧ N (acc ++ [p]) σ4 h4) (fun _ _ _ => False) else N acc σ2 h2) (fun _ _ _ => False)
/-- what it has made so far, then the rest -/
def lcGo (tgt : WG) (cond : WT) (elt : WE) (vs : List Nat) : List PV → List PV → PSt → PH → (List PV → PSt → PH → Prop) → Prop
  | [], acc, σ, h, Q => Q acc σ h
  | x :: xs, acc, σ, h, Q => lcStep tgt cond elt x acc σ h fun acc' σ' h' => lcGo tgt cond elt vs xs acc' (wipeP σ' vs) h' Q
def wLc (it : WI) (tgt : WG) (cond : WT) (elt : WE) (vs : List Nat) : WE := fun σ h Q E => it σ h (fun items σ1 h1 => lcGo tgt cond elt vs items [] (wipeP σ1 vs) h1 fun ys σ2 h2 => Q (.own (.lst ys)) (backP σ1 σ2 vs) h2) E
def wYes : WT := fun σ h Q _ => Q true σ h
structure JTs (S : Sc) (ifs : List Expr) (T : WT) : Prop where
  run : ∀ X W, At S X → Takes X W → PTs X ifs (LT X.K X.mg T W)
  mono : Mono T
theorem pts_weak {X : Cx} {e : List Expr} {t t' : TT} (p : PTs X e t) (i : ∀ σ H Q, t' σ H Q → t σ H Q) : PTs X e t' := ⟨fun pins s σ H Q I q => p.run pins s σ H Q I (i σ H Q q)⟩
section
variable {S : Sc}
theorem jts_nil : JTs S [] wYes where
  mono := fun σ h Q Q' E E' i j q => i _ _ _ q
  run := fun X W A tk => pts_weak pts_nil fun σ H Q ⟨F, σp, h, s, q⟩ => q F H .refl s
theorem jts_one {c : Expr} {T : WT} (h : JT S c T) : JTs S [c] T := ⟨fun X W A tk => pts_one (h.run X W A tk), h.mono⟩
/-- the context of a block -/
def Sc.blk (S : Sc) (scope : Scope) : Sc := { S with sc := relS scope S.sc, fn := fun x => scope.names.lookup x == some .cell, top := false }
theorem At.blk {X : Cx} (A : At S X) (s : Shared) (H : Hp) (scope : Scope) (cl : List (Str × Addr)) (C : Addr) (fp : List Addr) : At (S.blk scope) (X.blk s H scope (compEnvC scope cl C X.env) fp) where
  P := A.P
  w := A.w
  K := A.K
  mg := A.mg
  base := A.base
  N := A.N
  sc := by show relS scope X.env.scope = relS scope S.sc; rw [A.sc]
  nd := A.nd
  fn := fun x z => z
  calm := A.calm
  room := A.room
  units := A.units
  top := fun z => nomatch z
theorem lcStep_mono {tgt : WG} {cond : WT} {elt : WE} (m1 : ∀ p σ h Q Q', (∀ σ h, Q σ h → Q' σ h) → tgt p σ h Q → tgt p σ h Q') (m2 : Mono cond) (m3 : Mono elt) {x : PV} {acc : List PV} {σ : PSt} {h : PH} {Q Q' : List PV → PSt → PH → Prop} (i : ∀ p σ h, Q p σ h → Q' p σ h)
    (q : lcStep tgt cond elt x acc σ h Q) : lcStep tgt cond elt x acc σ h Q' := m1 _ _ _ _ _ (fun σ1 h1 q => m2 _ _ _ _ _ _ (fun b σ2 h2 q => by
      cases b with
      | true => exact m3 _ _ _ _ _ _ (fun e σ3 h3 q => share_mono (fun p σ4 h4 q => ⟨q.1, i _ _ _ q.2⟩) q) (fun _ _ _ z => z) q
      | false => exact i _ _ _ q) (fun _ _ _ z => z) q) q
theorem lcGo_mono {tgt : WG} {cond : WT} {elt : WE} {vs : List Nat} (m1 : ∀ p σ h Q Q', (∀ σ h, Q σ h → Q' σ h) → tgt p σ h Q → tgt p σ h Q') (m2 : Mono cond) (m3 : Mono elt) :
    ∀ {xs acc : List PV} {σ : PSt} {h : PH} {Q Q' : List PV → PSt → PH → Prop}, (∀ p σ h, Q p σ h → Q' p σ h) → lcGo tgt cond elt vs xs acc σ h Q → lcGo tgt cond elt vs xs acc σ h Q'
  | [], acc, σ, h, Q, Q', i, q => i _ _ _ q
  | x :: xs, acc, σ, h, Q, Q', i, q => lcStep_mono m1 m2 m3 (fun p σ h q => lcGo_mono m1 m2 m3 i q) q
/-- what is so at each turn -/
structure LcAt (K : PySem.W.Frag) (F1 : Ft) (H1 : Hp) (D : Addr) (vs : List Nat) (σ : L2.St) (tgt : WG) (cond : WT) (elt : WE) (items : List PV) (i : Nat) (H : Hp) (Qp : List PV → PSt → PH → Prop) : Prop where
  ex : ∃ (F : Ft) (σp : PSt) (h : PH) (acc : List PV) (va : List V), Sm K H F σp h (L2.wipe σ vs) ∧ (∀ b, F.z b ↔ F1.z b ∨ b = D) ∧ F.b = F1.b ∧ H D = some (.lst va) ∧ RpL K H F acc va ∧ Fr F1 H1 ⟨F.f, F1.z, F1.b⟩ H ∧ lcGo tgt cond elt vs (items.drop i) acc σp h Qp
theorem Sm.addZ {K : PySem.W.Frag} {H : Hp} {F : Ft} {σp : PSt} {h : PH} {σ : L2.St} (S : Sm K H F σp h σ) {D : Addr} (n : H D = none) : Sm K (upd H D (.lst [])) ⟨fun b => F b ∨ b = D, fun b => F.z b ∨ b = D, F.b⟩ σp h σ := by
  have hne : ∀ b u, H b = some u → b ≠ D := fun b u e z => by rw [z, n] at e; cases e
  have kp : Keep F H (fun b => F b ∨ b = D) (upd H D (.lst [])) := fun b u e nf => ⟨by rw [upd_ne (hne b u e)]; exact e, fun z => z.elim nf (hne b u e)⟩
  have fD : ¬ F D := S.nf n
  have oth : ∀ b u, H b = some u → upd H D (.lst []) b = some u := fun b u e => by rw [upd_ne (hne b u e)]; exact e
  refine ⟨fun i p e => ?_, fun i o e => ?_, S.sep, fun a o e => ?_, S.len, fun a f => ?_, fun a z => ?_, fun a z => let ⟨u, e⟩ := S.bt a z; ⟨u, oth a u e⟩⟩
  · obtain ⟨v, a, r⟩ := S.val i p e; exact ⟨v, a, r.keep kp⟩
  · obtain ⟨a, b, r, f, c, d, z, nb⟩ := S.own i o e
    exact ⟨a, b, r.keep kp (fun u => oth a u), .inl f, c, d, fun q => q.elim z fun q => fD (q ▸ f), nb⟩
  · obtain ⟨r, f, z⟩ := S.hp a o e
    exact ⟨r.keep kp (fun u => oth a u), .inl f, fun q => q.elim z fun q => fD (q ▸ f)⟩
  · rcases f with f | rfl
    · obtain ⟨u, e⟩ := S.fin a f; exact ⟨u, oth a u e⟩
    · exact ⟨_, upd_same⟩
  · rcases z with z | rfl
    · obtain ⟨f, xs, e⟩ := S.zf a z; exact ⟨.inl f, xs, oth a _ e⟩
    · exact ⟨.inr rfl, .inl [], upd_same⟩
/-- a protected list grows -/
theorem Sm.growZ {K : PySem.W.Frag} {H : Hp} {F : Ft} {σp : PSt} {h : PH} {σ : L2.St} (S : Sm K H F σp h σ) {D : Addr} {ys : List V} (z : F.z D) : Sm K (upd H D (.lst ys)) F σp h σ ∧ Keep F H F (upd H D (.lst ys)) := by
  have fD := (S.zf D z).1
  have kp : Keep F H F (upd H D (.lst ys)) := fun b u e nf => ⟨by rw [upd_ne fun q => nf (by rw [q]; exact fD)]; exact e, nf⟩
  have oth : ∀ b u, ¬ F.z b → H b = some u → upd H D (.lst ys) b = some u := fun b u n e => by rw [upd_ne fun q => n (by rw [q]; exact z)]; exact e
  refine ⟨⟨fun i p e => ?_, fun i o e => ?_, S.sep, fun a o e => ?_, S.len, fun a f => ?_, fun a w => ?_, fun a w => ?_⟩, kp⟩
  · obtain ⟨v, a, r⟩ := S.val i p e; exact ⟨v, a, r.keep kp⟩
  · obtain ⟨a, b, r, f, c, d, w, nb⟩ := S.own i o e
    exact ⟨a, b, r.keep kp (fun u => oth a u w), f, c, d, w, nb⟩
  · obtain ⟨r, f, w⟩ := S.hp a o e
    exact ⟨r.keep kp (fun u => oth a u w), f, w⟩
  · by_cases q : a = D
    · subst q; exact ⟨_, upd_same⟩
    · obtain ⟨u, e⟩ := S.fin a f; exact ⟨u, by rw [upd_ne q]; exact e⟩
  · obtain ⟨f, xs, e⟩ := S.zf a w
    by_cases q : a = D
    · subst q; exact ⟨f, .inl ys, upd_same⟩
    · exact ⟨f, xs, by rw [upd_ne q]; exact e⟩
  · obtain ⟨u, e⟩ := S.bt a w
    by_cases q : a = D
    · subst q; exact ⟨_, upd_same⟩
    · exact ⟨u, by rw [upd_ne q]; exact e⟩
/-- the protected list is given out -/
theorem Sm.outZ {K : PySem.W.Frag} {H : Hp} {F F1 : Ft} {σp : PSt} {h : PH} {σ : L2.St} (S : Sm K H F σp h σ) {D : Addr} (zz : ∀ b, F.z b ↔ F1.z b ∨ b = D) (n1 : ¬ F1.z D) (nb : ¬ F.b D) : Sm K (hide H D) ⟨fun b => F b ∧ b ≠ D, F1.z, F.b⟩ σp h σ ∧ Keep F H (fun b => F b ∧ b ≠ D) (hide H D) := by
  have zD : F.z D := (zz D).mpr (.inr rfl)
  have fD := (S.zf D zD).1
  have kp : Keep F H (fun b => F b ∧ b ≠ D) (hide H D) := fun b u e nf => ⟨by rw [hide_ne fun q => nf (by rw [q]; exact fD)]; exact e, fun q => nf q.1⟩
  have oth : ∀ b u, ¬ F.z b → H b = some u → hide H D b = some u := fun b u n e => by rw [hide_ne fun q => n (by rw [q]; exact zD)]; exact e
  have neD : ∀ b, ¬ F.z b → b ≠ D := fun b n q => n (by rw [q]; exact zD)
  refine ⟨⟨fun i p e => ?_, fun i o e => ?_, S.sep, fun a o e => ?_, S.len, fun a f => ?_, fun a w => ?_, fun a w => ?_⟩, kp⟩
  · obtain ⟨v, a, r⟩ := S.val i p e; exact ⟨v, a, r.keep kp⟩
  · obtain ⟨a, b, r, f, c, d, w, nb⟩ := S.own i o e
    exact ⟨a, b, r.keep kp (fun u => oth a u w), ⟨f, neD a w⟩, c, d, fun q => w ((zz a).mpr (.inl q)), nb⟩
  · obtain ⟨r, f, w⟩ := S.hp a o e
    exact ⟨r.keep kp (fun u => oth a u w), ⟨f, neD a w⟩, fun q => w ((zz a).mpr (.inl q))⟩
  · obtain ⟨u, e⟩ := S.fin a f.1; exact ⟨u, by rw [hide_ne f.2]; exact e⟩
  · obtain ⟨f, xs, e⟩ := S.zf a ((zz a).mpr (.inl w))
    have q : a ≠ D := fun q => n1 (by rw [← q]; exact w)
    exact ⟨⟨f, q⟩, xs, by rw [hide_ne q]; exact e⟩
  · obtain ⟨u, e⟩ := S.bt a w
    exact ⟨u, by rw [hide_ne fun q => nb (by rw [← q]; exact w)]; exact e⟩
theorem lc_ok {X : Cx} {it : WI} {tgt : WG} {cond : WT} {elt : WE} {ix vs : List Nat} {scope : Scope} (m1 : ∀ p σ h Q Q', (∀ σ h, Q σ h → Q' σ h) → tgt p σ h Q → tgt p σ h Q') (m2 : Mono cond) (m3 : Mono elt) (mi : Mono it) (hix : ∀ j ∈ ix, j ∈ vs) (nd : vs.Nodup)
    {W : WX} {σ : L2.St} {H : Hp} {Q : VK} (q : LE X.K X.mg (wLc it tgt cond elt vs) W σ H Q) :
    tLc (LI X.K X.mg it W) (LG X.K ix tgt) (LT X.K X.mg cond fun _ _ _ _ => False) (LE X.K X.mg elt fun _ _ _ _ => False) vs σ H Q := by
  obtain ⟨F, σp, h, s, q⟩ := q
  refine ⟨F, σp, h, s, mi _ _ _ _ _ _ (fun items σ1 h1 q1 F1 H1 J f1 s1 wk D nD => ?_) (fun _ _ _ z => z) q⟩
  obtain ⟨G, Y, wk, gG, gY⟩ := wk
  let Qp : List PV → PSt → PH → Prop := fun ys σ2 h2 => CQ X.K F σ H Q (.own (.lst ys)) (backP σ1 σ2 vs) h2
  have n1 : ¬ F1.z D := fun z => s1.nf nD (s1.zf D z).1
  refine ⟨fun i m H2 => m = items.length - i ∧ i ≤ items.length ∧ LcAt X.K F1 H1 D vs σ tgt cond elt items i H2 Qp, ⟨items.length, by simp, Nat.zero_le _, ⟨⟨fun b => F1 b ∨ b = D, fun b => F1.z b ∨ b = D, F1.b⟩, wipeP σ1 vs, h1, [], [], (s1.wipe vs).addZ nD, fun b => Iff.rfl, rfl, upd_same, .nil, ?_, ?_⟩⟩, ?_⟩
  · exact ⟨rfl, rfl, fun b u e _ => by rw [upd_ne (ne_of_none e nD)]; exact e, fun b z => z.imp_right fun z => by rw [z]; exact nD, fun b e => upd_none e⟩
  · exact q1
  · rintro i m H2 ⟨rfl, hi, ⟨⟨Fi, σi, hh, acc, va, si, zz, bb, eD, ra, fr, go⟩⟩⟩
    have kp1 : Keep F1 H1 Fi H2 := fun b u e n => ⟨fr.st b u e (.inl n), fun z => by
      rcases fr.nw b z with q | q
      · exact n q
      · rw [e] at q; cases q⟩
    have zD : Fi.z D := (zz D).mpr (.inr rfl)
    by_cases hlt : i < items.length
    · refine .inr ⟨wk.goes i H2 hlt (gG Fi H2 kp1), fun H' => LcAt X.K F1 H1 D vs σ tgt cond elt items (i + 1) H' Qp, fun H' L => ⟨items.length - (i + 1), by omega, rfl, hlt, L⟩, fun x H3 y => ?_⟩
      have hx : items[i]? = some items[i] := List.getElem?_eq_getElem hlt
      obtain ⟨h3, rx⟩ := gY Fi H2 i x H3 _ kp1 si.fin (wk.yields i H2 x H3 hlt (gG Fi H2 kp1) y) hx
      have f3 : Fr Fi H2 Fi H3 := by
        rcases h3 with rfl | ⟨T, u, nT, rfl⟩
        · exact .refl
        · exact .new nT
      have s3 : Sm X.K H3 Fi σi hh (L2.wipe σ vs) := by
        rcases h3 with rfl | ⟨T, u, nT, rfl⟩
        · exact si
        · exact si.new nT
      rw [List.drop_eq_getElem_cons hlt] at go
      -- from here on the frame of the turn
      have frX : ∀ {F' : Ft} {H' : Hp}, Fr Fi H2 F' H' → Fr F1 H1 ⟨F'.f, F1.z, F1.b⟩ H' := fun {F' H'} g => ⟨rfl, rfl, fun b u e n => by
        have q := fr.st b u e n
        refine g.st b u q ?_
        rcases n with n | n
        · exact .inl (kp1 b u e n).2
        · exact .inr ((zz b).mpr (.inl n)), fun b z => by
        rcases g.nw b z with q | q
        · exact fr.nw b q
        · exact .inr (fr.dm b q), fun b e => fr.dm b (g.dm b e)⟩
      have zz' : ∀ {F' : Ft} {H' : Hp}, Fr Fi H2 F' H' → ∀ b, F'.z b ↔ F1.z b ∨ b = D := fun {F' H'} g b => by rw [g.zz]; exact zz b
      have ready : ∀ {F' : Ft} {H' : Hp} {τ : L2.St} {σ' : PSt} {h' : PH} {acc' : List PV} {va' : List V}, Fr F1 H1 ⟨F'.f, F1.z, F1.b⟩ H' → (∀ b, F'.z b ↔ F1.z b ∨ b = D) → F'.b = F1.b → Sm X.K H' F' σ' h' τ → L2.wipe τ vs = L2.wipe σ vs → H' D = some (.lst va') → RpL X.K H' F' acc' va' →
          lcGo tgt cond elt vs (items.drop (i + 1)) acc' (wipeP σ' vs) h' Qp → LcAt X.K F1 H1 D vs σ tgt cond elt items (i + 1) H' Qp := fun {F' H' τ σ' h' acc' va'} g z b w e d r q => ⟨⟨F', wipeP σ' vs, h', acc', va', by rw [← e]; exact w.wipe vs, z, b, d, r, g, q⟩⟩
      have eD3 : H3 D = some (.lst va) := f3.st D _ eD (.inr zD)
      refine ⟨Fi, σi, hh, items[i], s3, rx, m1 _ _ _ _ _ (fun σ4 h4 q4 F4 H4 τ f4 s4 k4 l4 => ?_) go⟩
      have ew : L2.wipe τ vs = L2.wipe σ vs := by
        have q := wipe_same (σ := L2.wipe σ vs) (σ' := τ) (vs := vs) (fun j hj => k4 j fun z => hj (hix j z)) l4
        rw [q, wipe_wipe]
      refine ⟨ew, ?_⟩
      refine ⟨F4, σ4, h4, s4, m2 _ _ _ _ _ _ (fun b σ5 h5 q5 F5 H5 f5 s5 => ?_) (fun _ _ _ z => z.elim) q4⟩
      have g5 := (f3.trans f4).trans f5
      cases b with
      | false => exact ready (frX g5) (zz' g5) (g5.bb.trans bb) s5 ew (g5.st D _ eD (.inr zD)) (ra.keep g5.keep) q5
      | true =>
        refine ⟨F5, σ5, h5, s5, m3 _ _ _ _ _ _ (fun e σ6 h6 q6 F6 H6 v f6 r6 => ?_) (fun _ _ _ z => z.elim) q5⟩
        have q6 : share (pend e) σ6 h6 (fun p σ4 h4 => acc.length < sizeLine ∧ lcGo tgt cond elt vs (items.drop (i + 1)) (acc ++ [p]) (wipeP σ4 vs) h4 Qp) := by cases e <;> exact q6
        obtain ⟨F7, p, σ7, h7, s7, rp, ⟨ha, q7⟩, k7, f7⟩ := share_ok r6.sm r6.re q6
        have g7 := (g5.trans f6).trans f7
        have eD7 := g7.st D _ eD (.inr zD)
        have zD7 : F7.z D := by rw [g7.zz]; exact zD
        obtain ⟨s8, k8⟩ := s7.growZ (ys := va ++ [v]) zD7
        refine ⟨va, eD7, by rw [← ra.length]; exact ha, ready (F' := F7) ⟨rfl, rfl, fun b u e n => ?_, (frX g7).nw, fun b e => (frX g7).dm b (upd_none e)⟩ (zz' g7) (g7.bb.trans bb) s8 ew upd_same (((ra.keep g7.keep).keep k8).append (.cons (rp.keep k8) .nil)) q7⟩
        rw [upd_ne fun q => by rw [q, nD] at e; cases e]
        exact (frX g7).st b u e n
    · have e : i = items.length := by omega
      subst e
      refine .inl ⟨wk.stops H2 (gG Fi H2 kp1), ?_⟩
      rw [List.drop_length] at go
      have go : CQ X.K F σ H Q (.own (.lst acc)) (backP σ1 σi vs) hh := go
      obtain ⟨s9, k9⟩ := si.outZ (F1 := F1) zz n1 (by rw [bb]; exact fun z => by obtain ⟨u, e⟩ := s1.bt D z; rw [nD] at e; cases e)
      have s10 := Sm.unwipe (F := ⟨fun b => Fi b ∧ b ≠ D, F1.z, Fi.b⟩) (H := hide H2 D) (h := hh) (σp := σi) s1 (fun b u e n => ?_) vs [] (by simpa using nd) (by simpa using s9)
      · refine go ⟨fun b => Fi b ∧ b ≠ D, F1.z, Fi.b⟩ H2 _ (f1.trans ⟨rfl, bb, fr.st, fun b z => fr.nw b z.1, fr.dm⟩) ⟨D, _, rfl, fun z => z.2 rfl, eD, ⟨va, rfl, ra.keep k9⟩, s10, rfl, f1.dm D nD⟩
      · have q := kp1 b u e n
        have bD : b ≠ D := fun z => by rw [z, nD] at e; cases e
        exact ⟨by rw [hide_ne bD]; exact q.1, fun z => q.2 z.1⟩
/-- [elt for tg in iter if ..] -/
theorem je_lc {elt tg iter : Expr} {ifs : List Expr} {scope : Scope} {own : List (Str × Nat)} {pos : Pos} {it : WI} {tgt : WG} {cond : WT} {te : WE} {ix : List Nat} (own' : own = own) (hi : JI S tg iter it) (ok : blkC S.N S.sc scope own = true) (hg : JG (S.blk scope) tg ix tgt) (ht : JTs (S.blk scope) ifs cond) (he : JE (S.blk scope) elt te)
    (hix : ∀ j ∈ ix, j ∈ own.map (·.2) := by decide) (nd : (own.map (·.2)).Nodup := by decide) (hc : S.calm = true := by rfl) (hs : ∀ env x, foldedSetIterable iter env x = pure x := by intro _ _; rfl) :
    JE S (.ListComp elt [⟨tg, iter, ifs, 0⟩] scope pos) (wLc it tgt cond te (own.map (·.2))) where
  mono := fun σ h Q Q' E E' i j q => hi.mono _ _ _ _ _ _ (fun xs σ h q => lcGo_mono hg.mono ht.mono he.mono (fun p σ h q => i _ _ _ q) q) j q
  run := fun X W A tk => by
    have okX : BlkOk X.N X.env.scope scope own := by rw [A.N, A.sc]; exact blkOk_by ok
    refine pe_weak (pe_lc (te := LE X.K X.mg te fun _ _ _ _ => False) (g := LG X.K ix tgt) (tt := LT X.K X.mg cond fun _ _ _ _ => False) (A.calm hc) A.nd (hi.run X W A tk) okX (fun s H C cl fp => hg.run _ (A.blk s H scope cl C fp)) (fun s H C cl fp => ht.run _ _ (A.blk s H scope cl C fp) takes0) (fun s H C cl fp => he.run _ _ (A.blk s H scope cl C fp) takes0) (hs _)) fun σ H Q q => ?_
    exact lc_ok (scope := scope) hg.mono ht.mono he.mono hi.mono hix nd q
end
end PP
set_option Elab.async false
set_option linter.all false
set_option maxRecDepth 100000
set_option maxHeartbeats 4000000
namespace PP
open PySem PySem.Spec PyProof.Rows L2

/-! ### values in a row, new lists kept as such -/
inductive REOL (K : PySem.W.Frag) (F : Ft) (σ : L2.St) (H : Hp) : List Addr → List EV → List V → Prop
  | nil : REOL K F σ H [] [] []
  | cons {As : List Addr} {x : EV} {v : V} {xs : List EV} {vs : List V} : RE K F σ H x v → REOL K F σ H As xs vs → REOL K F σ H As (x :: xs) (v :: vs)
  | own {a : Addr} {As : List Addr} {ys : List PV} {us : List V} {xs : List EV} {vs : List V} : H a = some (.lst us) → RpL K H F ys us → REOL K F σ H As xs vs → REOL K F σ H (a :: As) (.own (.lst ys) :: xs) (.ref a :: vs)
def keepO : EV → EV
  | .own (.lst xs) => .own (.lst xs)
  | e => pend e
def wCons2 (T : WE) (U : WA) : WA := fun σ h Q E => T σ h (fun e σ1 h1 => U σ1 h1 (fun es σ2 h2 => Q (keepO e :: es) σ2 h2) E) E
structure CA2 (K : PySem.W.Frag) (F : Ft) (σ : L2.St) (H : Hp) (es : List EV) (σp' : PSt) (h' : PH) (F' : Ft) (H' : Hp) (vs : List V) (As : List Addr) : Prop where
  sm : Sm K H' F' σp' h' σ
  re : REOL K F' σ H' As es vs
  zz : ∀ b, F'.z b ↔ F.z b ∨ b ∈ As
  nd : As.Nodup
  bb : F'.b = F.b
  fr : Fr F H ⟨F'.f, F.z, F.b⟩ H'
  nw : ∀ a ∈ As, H a = none
def LA2 (K : PySem.W.Frag) (mg : Str → Option Value) (T : WA) (W : WX) : TA := fun σ H Q => ∃ F σp h, Sm K H F σp h σ ∧ T σp h (fun es σp' h' => ∀ F' H' vs As, CA2 K F σ H es σp' h' F' H' vs As → Q vs H') (CE' K mg F σ H W)
structure JA2 (S : Sc) (es : List Expr) (T : WA) : Prop where
  run : ∀ X W, At S X → Takes X W → PA X es (LA2 X.K X.mg T W)
  mono : Mono T
section
variable {K : PySem.W.Frag} {F F' : Ft} {σ : L2.St} {H H' : Hp} {σp : PSt} {h : PH}
theorem REOL.keep (k : Keep F H F' H') : ∀ {As : List Addr} {es : List EV} {vs : List V}, (∀ a ∈ As, ∀ u, H a = some u → H' a = some u) → REOL K F σ H As es vs → REOL K F' σ H' As es vs
  | _, _, _, _, .nil => .nil
  | _, _, _, e, .cons r q => .cons (r.keep k) (REOL.keep k e q)
  | _, _, _, e, .own ea r q => .own (e _ List.mem_cons_self _ ea) (r.keep k) (REOL.keep k (fun a ha => e a (List.mem_cons_of_mem _ ha)) q)
/-- a new list is protected while others are reckoned -/
theorem Sm.protect {a : Addr} {us : List V} (S : Sm K (hide H a) F σp h σ) (nf : ¬ F a) (ea : H a = some (.lst us)) : Sm K H ⟨fun b => F b ∨ b = a, fun b => F.z b ∨ b = a, F.b⟩ σp h σ := by
  have kp : Keep F (hide H a) (fun b => F b ∨ b = a) H := .hideF
  have oth : ∀ b u, hide H a b = some u → H b = some u := fun b u e => (hide_some e).2
  refine ⟨fun i p e => ?_, fun i o e => ?_, S.sep, fun b o e => ?_, S.len, fun b f => ?_, fun b z => ?_, fun b z => let ⟨u, e⟩ := S.bt b z; ⟨u, oth b u e⟩⟩
  · obtain ⟨v, x, r⟩ := S.val i p e; exact ⟨v, x, r.keep kp⟩
  · obtain ⟨x, b, r, f, c, d, z, nb⟩ := S.own i o e
    exact ⟨x, b, r.keep kp (fun u => oth x u), .inl f, c, d, fun q => q.elim z fun q => nf (q ▸ f), nb⟩
  · obtain ⟨r, f, z⟩ := S.hp b o e
    exact ⟨r.keep kp (fun u => oth b u), .inl f, fun q => q.elim z fun q => nf (q ▸ f)⟩
  · rcases f with f | rfl
    · obtain ⟨u, e⟩ := S.fin b f; exact ⟨u, oth b u e⟩
    · exact ⟨_, ea⟩
  · rcases z with z | rfl
    · obtain ⟨f, xs, e⟩ := S.zf b z; exact ⟨.inl f, xs, oth b _ e⟩
    · exact ⟨.inr rfl, .inl us, ea⟩
end
section
variable {S : Sc} {e : Expr} {es : List Expr} {T : WE} {U : WA}
theorem ja2_nil : JA2 S [] wNil where
  mono := fun σ h Q Q' E E' i j q => i _ _ _ q
  run := fun X W A tk => pa_weak pa_nil fun σ H Q ⟨F, σp, h, s, q⟩ => q F H [] [] ⟨s, .nil, fun b => by simp, List.nodup_nil, rfl, ⟨rfl, rfl, fun _ _ e _ => e, fun _ z => .inl z, fun _ z => z⟩, fun _ z => nomatch z⟩
theorem ja2_cons (ha : JE S e T) (hr : JA2 S es U) (hs : ∀ env, starEach (e :: es) env = (false, eval e env) :: starEach es env := by intro _; rfl) : JA2 S (e :: es) (wCons2 T U) where
  mono := fun σ h Q Q' E E' i j q => ha.mono _ _ _ _ _ _ (fun x σ h q => hr.mono _ _ _ _ _ _ (fun y σ h q => i _ _ _ q) j q) j q
  run := fun X W A tk => by
    refine pa_weak (pa_cons (ha.run X W A tk) (hr.run X W A tk) (hs X.env)) fun σ H Q q => ?_
    obtain ⟨F, σp, h, s, q⟩ := q
    refine ⟨F, σp, h, s, ha.mono _ _ _ _ _ _ (fun ea σ1 h1 q1 F1 H1 x f1 r1 => ?_) (fun _ _ _ z => z) q⟩
    by_cases ho : ∃ ys, ea = .own (.lst ys)
    · obtain ⟨ys, rfl⟩ := ho
      obtain ⟨a, u, rfl, nf, eu, c, sm, z, nw⟩ := r1
      obtain ⟨us, rfl, ru⟩ := c
      have nF : ¬ F a := s.nf nw
      have sp := sm.protect nf eu
      refine ⟨_, σ1, h1, sp, hr.mono _ _ _ _ _ _ (fun es σ2 h2 q2 F2 H2 vs As C => ?_) (fun x σ' h' z => fun F' H' cls d g sm' xr => ?_) q1⟩
      · have e2 : H2 a = some (.lst us) := C.fr.st a _ eu (.inr (.inr rfl))
        refine q2 F2 H2 _ (a :: As) ⟨C.sm, .own e2 ?_ C.re, fun b => ?_, List.nodup_cons.mpr ⟨fun w => ?_, C.nd⟩, C.bb.trans f1.bb, ⟨rfl, rfl, fun b u e n => ?_, fun b w => ?_, fun b w => f1.dm b (C.fr.dm b w)⟩, fun b hb => ?_⟩
        · refine ru.keep fun b u e n => ?_
          obtain ⟨hb, e⟩ := hide_some e
          refine ⟨C.fr.st b u e (.inl fun w => w.elim n hb), fun w => ?_⟩
          rcases C.fr.nw b w with w | w
          · exact w.elim n hb
          · rw [e] at w; cases w
        · rw [C.zz b]
          show (F1.z b ∨ b = a) ∨ b ∈ As ↔ _
          rw [f1.zz]
          simp only [List.mem_cons, or_assoc]
        · have := C.nw a w; rw [eu] at this; cases this
        · have e1 := f1.st b u e n
          refine C.fr.st b u e1 ?_
          have hb : b ≠ a := fun w => by rw [w, nw] at e; cases e
          rcases n with n | n
          · refine .inl fun w => ?_
            rcases w with w | w
            · exact (f1.keep b u e n).2 w
            · exact hb w
          · exact .inr (.inl (by rw [f1.zz]; exact n))
        · rcases C.fr.nw b w with w | w
          · rcases w with w | w
            · exact f1.nw b w
            · exact .inr (by rw [w]; exact nw)
          · exact .inr (f1.dm b w)
        · rcases List.mem_cons.mp hb with rfl | hb
          · exact nw
          · exact f1.dm b (C.nw b hb)
      · -- an error behind it: the protected list is of no more use
        refine z ⟨F'.f, F.z, F.b⟩ H' cls d ⟨rfl, rfl, fun b u e n => ?_, fun b w => ?_, fun b w => f1.dm b (g.dm b w)⟩ ⟨sm'.val, fun i o e => ?_, sm'.sep, fun b o e => ?_, sm'.len, sm'.fin, fun b w => ?_, fun b w => ?_⟩ xr
        · have hb : b ≠ a := fun w => by rw [w, nw] at e; cases e
          refine g.st b u (f1.st b u e n) ?_
          rcases n with n | n
          · refine .inl fun w => ?_
            rcases w with w | w
            · exact (f1.keep b u e n).2 w
            · exact hb w
          · exact .inr (.inl (by rw [f1.zz]; exact n))
        · rcases g.nw b w with w | w
          · rcases w with w | w
            · exact f1.nw b w
            · exact .inr (by rw [w]; exact nw)
          · exact .inr (f1.dm b w)
        · obtain ⟨x, b, r, f, c, d, w, nb⟩ := sm'.own i o e
          exact ⟨x, b, r, f, c, d, fun q => w (by rw [g.zz]; exact .inl (by rw [f1.zz]; exact q)), fun q => nb (by rw [g.bb]; exact (by rw [f1.bb]; exact q : F1.b x))⟩
        · obtain ⟨r, f, w⟩ := sm'.hp b o e
          exact ⟨r, f, fun q => w (by rw [g.zz]; exact .inl (by rw [f1.zz]; exact q))⟩
        · exact sm'.zf b (by rw [g.zz]; exact .inl (by rw [f1.zz]; exact w))
        · exact sm'.bt b (by rw [g.bb]; exact (by rw [f1.bb]; exact w : F1.b b))
    · have ek : keepO ea = pend ea := by
        cases ea with
        | own o => cases o with
          | lst ys => exact absurd ⟨ys, rfl⟩ ho
          | _ => rfl
        | _ => rfl
      rw [ek] at q1
      refine ⟨F1, σ1, h1, r1.sm, hr.mono _ _ _ _ _ _ (fun es σ2 h2 q2 F2 H2 vs As C => ?_) (fun x σ' h' z => z.step f1) q1⟩
      refine q2 F2 H2 _ As ⟨C.sm, .cons (r1.re.keep fun b u e n => ⟨C.fr.st b u e (.inl n), fun w => ?_⟩) C.re, fun b => ?_, C.nd, C.bb.trans f1.bb, ⟨rfl, rfl, fun b u e n => ?_, fun b w => ?_, fun b w => f1.dm b (C.fr.dm b w)⟩, fun b hb => f1.dm b (C.nw b hb)⟩
      · rcases C.fr.nw b w with w | w
        · exact n w
        · rw [e] at w; cases w
      · rw [C.zz b, f1.zz]
      · refine C.fr.st b u (f1.st b u e n) ?_
        rcases n with n | n
        · exact .inl (f1.keep b u e n).2
        · exact .inr (by rw [f1.zz]; exact n)
      · rcases C.fr.nw b w with w | w
        · exact f1.nw b w
        · exact .inr (f1.dm b w)
end
/-- names' lists are given away; new lists stay -/
def shareO : List EV → PSt → PH → (List EV → PSt → PH → Prop) → Prop
  | [], σ, h, Q => Q [] σ h
  | .own o :: es, σ, h, Q => shareO es σ h fun es' σ' h' => Q (.own o :: es') σ' h'
  | .val p :: es, σ, h, Q => shareO es σ h fun es' σ' h' => Q (.val p :: es') σ' h'
  | .bor i :: es, σ, h, Q => share (.bor i) σ h fun p σ1 h1 => shareO es σ1 h1 fun es' σ' h' => Q (.val p :: es') σ' h'
theorem shareO_mono : ∀ {es : List EV} {σ : PSt} {h : PH} {Q Q' : List EV → PSt → PH → Prop}, (∀ p σ h, Q p σ h → Q' p σ h) → shareO es σ h Q → shareO es σ h Q'
  | [], σ, h, Q, Q', i, q => i _ _ _ q
  | .own o :: es, σ, h, Q, Q', i, q => shareO_mono (es := es) (fun _ _ _ z => i _ _ _ z) q
  | .val o :: es, σ, h, Q, Q', i, q => shareO_mono (es := es) (fun _ _ _ z => i _ _ _ z) q
  | .bor o :: es, σ, h, Q, Q', i, q => share_mono (fun p σ h z => shareO_mono (es := es) (fun _ _ _ w => i _ _ _ w) z) q
/-- .. put into names -/
def putEs : PSt → List Nat → List EV → PSt
  | σ, i :: is, .own o :: es => putEs (σ.set i (some (.own o))) is es
  | σ, i :: is, .val p :: es => putEs (σ.set i (some (.val p))) is es
  | σ, _, _ => σ
def putVs : L2.St → List Nat → List V → L2.St
  | σ, i :: is, v :: vs => putVs (σ.set i (some v)) is vs
  | σ, _, _ => σ
inductive REOV (K : PySem.W.Frag) (F : Addr → Prop) (H : Hp) : List Addr → List EV → List V → Prop
  | nil : REOV K F H [] [] []
  | val {As : List Addr} {p : PV} {v : V} {xs : List EV} {vs : List V} : Rp K H F p v → REOV K F H As xs vs → REOV K F H As (.val p :: xs) (v :: vs)
  | own {a : Addr} {As : List Addr} {ys : List PV} {us : List V} {xs : List EV} {vs : List V} : H a = some (.lst us) → RpL K H F ys us → REOV K F H As xs vs → REOV K F H (a :: As) (.own (.lst ys) :: xs) (.ref a :: vs)
section
variable {K : PySem.W.Frag} {σ : L2.St} {H : Hp}
theorem shareO_ok : ∀ {es : List EV} {vs : List V} {As : List Addr} {F : Ft} {σp : PSt} {h : PH} {Q : List EV → PSt → PH → Prop}, Sm K H F σp h σ → REOL K F σ H As es vs → shareO es σp h Q →
    ∃ F' es' σ' h', Sm K H F' σ' h' σ ∧ REOV K F' H As es' vs ∧ Q es' σ' h' ∧ Fr F H F' H
  | [], _, _, F, σp, h, Q, S, .nil, q => ⟨F, [], σp, h, S, .nil, q, .refl⟩
  | .own o :: es, _, _, F, σp, h, Q, S, r, q => by
    cases r with
    | cons a b => exact a.elim
    | own ea ra b =>
      obtain ⟨F2, es', σ2, h2, s2, r2, q2, f2⟩ := shareO_ok S b q
      exact ⟨F2, _, σ2, h2, s2, .own ea (ra.keep f2.keep) r2, q2, f2⟩
  | .val p :: es, _, _, F, σp, h, Q, S, r, q => by
    cases r with
    | cons a b =>
      obtain ⟨F2, es', σ2, h2, s2, r2, q2, f2⟩ := shareO_ok S b q
      exact ⟨F2, _, σ2, h2, s2, .val (Rp.keep f2.keep a) r2, q2, f2⟩
  | .bor i :: es, _, _, F, σp, h, Q, S, r, q => by
    cases r with
    | cons a b =>
      obtain ⟨F1, p, σ1, h1, s1, r1, q1, k1, f1⟩ := share_ok S a q
      obtain ⟨F2, es', σ2, h2, s2, r2, q2, f2⟩ := shareO_ok s1 (b.keep k1 fun _ _ _ z => z) q1
      exact ⟨F2, _, σ2, h2, s2, .val (r1.keep f2.keep) r2, q2, f1.trans f2⟩
theorem put_ok : ∀ {is : List Nat} {es : List EV} {vs : List V} {As : List Addr} {F : Ft} {G : Addr → Prop} {σp : PSt} {h : PH} {σ : L2.St}, Sm K H F σp h σ → REOV K F H As es vs → (∀ b, F.z b ↔ G b ∨ b ∈ As) → As.Nodup → (∀ a ∈ As, ¬ G a ∧ ¬ F.b a) → is.length = es.length →
    Sm K H ⟨F.f, G, F.b⟩ (putEs σp is es) h (putVs σ is vs)
  | [], _, _, _, F, G, σp, h, σ, S, .nil, zz, nd, na, hl => by
    have e : F.z = G := funext fun b => propext ((zz b).trans (by simp))
    subst e
    exact S
  | i :: is, _, _, _, F, G, σp, h, σ, S, .nil, zz, nd, na, hl => by cases hl
  | [], _, _, _, F, G, σp, h, σ, S, .val _ _, zz, nd, na, hl => by cases hl
  | [], _, _, _, F, G, σp, h, σ, S, .own _ _ _, zz, nd, na, hl => by cases hl
  | i :: is, _, _, _, F, G, σp, h, σ, S, .val r q, zz, nd, na, hl => put_ok (is := is) (S.setVal r) q zz nd na (by simpa using hl)
  | i :: is, _, _, _, F, G, σp, h, σ, S, @REOV.own _ _ _ a As ys us xs vs ea ra q, zz, nd, na, hl => by
    have fa : F a := (S.zf a ((zz a).mpr (.inr List.mem_cons_self))).1
    obtain ⟨s1, k1⟩ := S.outZ (F1 := ⟨F.f, fun b => G b ∨ b ∈ As, F.b⟩) (D := a) (fun b => by rw [zz b]; simp only [List.mem_cons]; exact ⟨fun z => z.elim (fun z => .inl (.inl z)) fun z => z.elim .inr fun z => .inl (.inr z), fun z => z.elim (fun z => z.elim .inl fun z => .inr (.inr z)) fun z => .inr (.inl z)⟩)
      (fun z => z.elim (na a List.mem_cons_self).1 (List.nodup_cons.mp nd).1) (na a List.mem_cons_self).2
    have s2 := s1.setOwn (i := i) (o := .lst ys) (fun z => z.2 rfl) ea ⟨us, rfl, ra.keep k1⟩ rfl (na a List.mem_cons_self).2
    have ef : (Ft.add ⟨fun b => F b ∧ b ≠ a, fun b => G b ∨ b ∈ As, F.b⟩ a) = ⟨F.f, fun b => G b ∨ b ∈ As, F.b⟩ := by
      unfold Ft.add
      congr 1
      funext b
      refine propext ⟨fun z => z.elim (fun z => z.1) fun z => by rw [z]; exact fa, fun z => ?_⟩
      by_cases e : b = a
      · exact .inr e
      · exact .inl ⟨z, e⟩
    rw [ef] at s2
    exact put_ok (is := is) (F := ⟨F.f, fun b => G b ∨ b ∈ As, F.b⟩) (G := G) s2 q (fun b => Iff.rfl) (List.nodup_cons.mp nd).2 (fun b hb => na b (List.mem_cons_of_mem _ hb)) (by simpa using hl)
theorem REOV.len {F : Addr → Prop} : ∀ {As : List Addr} {es : List EV} {vs : List V}, REOV K F H As es vs → es.length = vs.length
  | _, _, _, .nil => rfl
  | _, _, _, .val _ b => by simp [REOV.len b]
  | _, _, _, .own _ _ b => by simp [REOV.len b]
end

/-! ### statements -/
/-- a def's result, its new list no list of the def's entry -/
def RB (K : PySem.W.Frag) (F : Ft) (σp : PSt) (h : PH) (σ : L2.St) (H : Hp) : EV → V → Prop
  | .val p, v => Sm K H F σp h σ ∧ Rp K H F p v
  | .bor _, _ => False
  | .own o, v => ∃ a u, v = .ref a ∧ ¬ F a ∧ H a = some u ∧ OC K (hide H a) F o u ∧ Sm K (hide H a) F σp h σ ∧ o.fz = true ∧ ¬ F.b a
structure PD where
  nx : PSt → PH → Prop
  rt : EV → PSt → PH → Prop
  bk : PSt → PH → Prop
  ct : PSt → PH → Prop
  ex : EPost
structure PD.le (D D' : PD) : Prop where
  nx : ∀ σ h, D.nx σ h → D'.nx σ h
  rt : ∀ e σ h, D.rt e σ h → D'.rt e σ h
  bk : ∀ σ h, D.bk σ h → D'.bk σ h
  ct : ∀ σ h, D.ct σ h → D'.ct σ h
  ex : ∀ x σ h, D.ex x σ h → D'.ex x σ h
abbrev WS := PD → PSt → PH → Prop
def CN (K : PySem.W.Frag) (F : Ft) (H : Hp) (Q : L2.St → Hp → Prop) : PSt → PH → Prop := fun σp' h' => ∀ F' H' σ', Fr F H F' H' → Sm K H' F' σp' h' σ' → Q σ' H'
def pd (K : PySem.W.Frag) (mg : Str → Option Value) (F : Ft) (H : Hp) (D : Ends) (W : WX) : PD where
  nx := CN K F H D.nx
  bk := CN K F H D.bk
  ct := CN K F H D.ct
  rt := fun e σp' h' => ∀ F' H' σ' v, Fr F H F' H' → RB K F' σp' h' σ' H' e v → D.rt v H'
  ex := fun x σp' h' => ∀ F' H' σ' cls d, Fr F H F' H' → Sm K H' F' σp' h' σ' → XR K mg x cls d H' → W cls d σ' H'
def LS (K : PySem.W.Frag) (mg : Str → Option Value) (T : WS) (W : WX) : TS := fun D σ H => ∃ F σp h, Sm K H F σp h σ ∧ T (pd K mg F H D W) σp h
def MonoS (T : WS) : Prop := ∀ D D' σ h, PD.le D D' → T D σ h → T D' σ h
structure JS (S : Sc) (st : Stmt) (T : WS) : Prop where
  run : ∀ X W, At S X → Takes X W → PassesOwn (model X.prog X.w) X.A X.env X.xe → PS X st (LS X.K X.mg T W)
  mono : MonoS T
structure JSs (S : Sc) (st : List Stmt) (T : WS) : Prop where
  run : ∀ X W, At S X → Takes X W → PassesOwn (model X.prog X.w) X.A X.env X.xe → PSs X st (LS X.K X.mg T W)
  mono : MonoS T
theorem ps_weak {X : Cx} {st : Stmt} {t t' : TS} (p : PS X st t) (i : ∀ D σ H, t' D σ H → t D σ H) : PS X st t' := ⟨fun pins s σ H D I q => p.run pins s σ H D I (i D σ H q)⟩
theorem pss_weak {X : Cx} {st : List Stmt} {t t' : TS} (p : PSs X st t) (i : ∀ D σ H, t' D σ H → t D σ H) : PSs X st t' := ⟨fun pins s σ H D I q => p.run pins s σ H D I (i D σ H q)⟩
section
variable {K : PySem.W.Frag} {mg : Str → Option Value} {F F1 : Ft} {H H1 : Hp} {D : Ends} {W : WX}
theorem pd_step (f : Fr F H F1 H1) : PD.le (pd K mg F H D W) (pd K mg F1 H1 D W) where
  nx := fun σ h q F' H' σ' g s => q F' H' σ' (f.trans g) s
  bk := fun σ h q F' H' σ' g s => q F' H' σ' (f.trans g) s
  ct := fun σ h q F' H' σ' g s => q F' H' σ' (f.trans g) s
  rt := fun e σ h q F' H' σ' v g s => q F' H' σ' v (f.trans g) s
  ex := fun x σ h q F' H' σ' cls d g s r => q F' H' σ' cls d (f.trans g) s r
/-- an expression's error is the statement's -/
theorem ex_of {σ : L2.St} {x : PX} {σp : PSt} {h : PH} (q : (pd K mg F H D W).ex x σp h) : CE' K mg F σ H W x σp h := fun F' H' cls d g s r => q F' H' σ cls d g s r
end
def sNext : WS := fun D σ h => D.nx σ h
def sSeq (T U : WS) : WS := fun D σ h => T { D with nx := U D } σ h
def sBrk : WS := fun D σ h => D.bk σ h
def sCnt : WS := fun D σ h => D.ct σ h
def sIf (C : WT) (T U : WS) : WS := fun D σ h => C σ h (fun b σ1 h1 => if b = true then T D σ1 h1 else U D σ1 h1) D.ex
def sDrop (T : WE) : WS := fun D σ h => T σ h (fun _ σ1 h1 => D.nx σ1 h1) D.ex
/-- what a def hands back: a list of a name goes with it -/
def retB (D : PD) (i : Nat) (σ : PSt) (h : PH) : Prop := match σ[i]? with
  | some (some (.val p)) => D.rt (.val p) σ h
  | some (some (.own o)) => D.rt (.own o) (σ.set i none) h
  | _ => False
def retE (D : PD) : EV → PSt → PH → Prop
  | .bor i, σ, h => retB D i σ h
  | e, σ, h => D.rt e σ h
def sRet (T : WE) : WS := fun D σ h => T σ h (retE D) D.ex
def sRetN : WS := fun D σ h => D.rt (.val .non) σ h
/-- name = value -/
def putE (i : Nat) (Q : PSt → PH → Prop) : EV → PSt → PH → Prop
  | .own o, σ, h => Q (σ.set i (some (.own o))) h
  | e, σ, h => share e σ h fun p σ1 h1 => Q (σ1.set i (some (.val p))) h1
def sSet (i : Nat) (T : WE) : WS := fun D σ h => T σ h (putE i D.nx) D.ex
section
variable {S : Sc} {st : Stmt} {rest a b : List Stmt} {T U : WS} {e c : Expr} {Te : WE} {C : WT} {pos : Pos} {x : Str}
theorem jss_nil : JSs S [] sNext where
  mono := fun D D' σ h l q => l.nx _ _ q
  run := fun X W A tk hp => pss_weak pss_nil fun D σ H ⟨F, σp, h, s, q⟩ => q F H σ .refl s
theorem sSeq_mono (m1 : MonoS T) (m2 : MonoS U) : MonoS (sSeq T U) := fun D D' σ h l q => m1 { D with nx := U D } { D' with nx := U D' } _ _ ⟨fun σ h q => m2 _ _ _ _ l q, l.rt, l.bk, l.ct, l.ex⟩ q
theorem jss_cons (h1 : JS S st T) (h2 : JSs S rest U) : JSs S (st :: rest) (sSeq T U) where
  mono := sSeq_mono h1.mono h2.mono
  run := fun X W A tk hp => by
    refine pss_weak (pss_cons (h1.run X W A tk hp) (h2.run X W A tk hp)) fun D σ H q => ?_
    obtain ⟨F, σp, h, s, q⟩ := q
    refine ⟨F, σp, h, s, h1.mono { pd X.K X.mg F H D W with nx := U (pd X.K X.mg F H D W) } _ _ _ ⟨fun σ1 h1 q F1 H1 σ' f s => ⟨F1, σ1, h1, s, h2.mono _ _ _ _ (pd_step f) q⟩, fun _ _ _ z => z, fun _ _ z => z, fun _ _ z => z, fun _ _ _ z => z⟩ q⟩
theorem jss_one (h1 : JS S st T) : JSs S [st] T := ⟨fun X W A tk hp => pss_one (h1.run X W A tk hp), h1.mono⟩
theorem js_pass : JS S (.Pass pos) sNext := ⟨fun X W A tk hp => ps_weak ps_pass fun D σ H ⟨F, σp, h, s, q⟩ => q F H σ .refl s, fun D D' σ h l q => l.nx _ _ q⟩
theorem js_break : JS S (.Break pos) sBrk := ⟨fun X W A tk hp => ps_weak ps_break fun D σ H ⟨F, σp, h, s, q⟩ => q F H σ .refl s, fun D D' σ h l q => l.bk _ _ q⟩
theorem js_continue : JS S (.Continue pos) sCnt := ⟨fun X W A tk hp => ps_weak ps_continue fun D σ H ⟨F, σp, h, s, q⟩ => q F H σ .refl s, fun D D' σ h l q => l.ct _ _ q⟩
theorem js_if (hc : JT S c C) (ha : JSs S a T) (hb : JSs S b U) : JS S (.If c a b pos) (sIf C T U) where
  mono := fun D D' σ h l q => hc.mono _ _ _ _ _ _ (fun k σ h q => by
    cases k with
    | true => exact ha.mono _ _ _ _ l q
    | false => exact hb.mono _ _ _ _ l q) l.ex q
  run := fun X W A tk hp => by
    refine ps_weak (ps_if (hc.run X W A tk) (ha.run X W A tk hp) (hb.run X W A tk hp)) fun D σ H q => ?_
    obtain ⟨F, σp, h, s, q⟩ := q
    refine ⟨F, σp, h, s, hc.mono _ _ _ _ _ _ (fun k σ1 h1 q1 F1 H1 f1 s1 => ?_) (fun _ _ _ z => ex_of z) q⟩
    cases k with
    | true => exact ⟨F1, σ1, h1, s1, ha.mono _ _ _ _ (pd_step f1) q1⟩
    | false => exact ⟨F1, σ1, h1, s1, hb.mono _ _ _ _ (pd_step f1) q1⟩
theorem js_expr (he : JE S e Te) (hs : ∀ env, swapsWith e none pos.line env = pure false := by intro _; rfl) : JS S (.Expr e pos) (sDrop Te) where
  mono := fun D D' σ h l q => he.mono _ _ _ _ _ _ (fun _ _ _ q => l.nx _ _ q) l.ex q
  run := fun X W A tk hp => by
    refine ps_weak (ps_expr (he.run X W A tk) (hs _)) fun D σ H q => ?_
    obtain ⟨F, σp, h, s, q⟩ := q
    exact ⟨F, σp, h, s, he.mono _ _ _ _ _ _ (fun ev σ1 h1 q1 F1 H1 v f1 r1 => q1 F1 H1 σ f1 r1.sm) (fun _ _ _ z => ex_of z) q⟩
/-- a list of a name is handed back -/
theorem Sm.give {K : PySem.W.Frag} {H : Hp} {F : Ft} {σp : PSt} {h : PH} {σ : L2.St} (S : Sm K H F σp h σ) {i : Nat} {o : PO} {a : Addr} (e : σp[i]? = some (some (.own o))) (ea : σ[i]? = some (some (.ref a))) :
    RB K (F.but a) (σp.set i none) h (σ.set i none) H (.own o) (.ref a) := by
  obtain ⟨a', ea', ⟨u, eu, c⟩, f, n, z, nz, nb⟩ := S.own i o e
  rw [ea] at ea'; cases ea'
  have kp : Keep F H (F.but a) (hide H a) := fun b u q n => ⟨by rw [hide_ne fun w => n (by rw [w]; exact f)]; exact q, fun z => n z.1⟩
  have oth : ∀ b u, b ≠ a → H b = some u → hide H a b = some u := fun b u hb q => by rw [hide_ne hb]; exact q
  refine ⟨a, u, rfl, fun w => w.2 rfl, eu, c.keep kp, ⟨fun j p q => ?_, fun j o' q => ?_, fun j l o' o'' b q1 q2 q3 q4 => ?_, fun b o' q => ?_, by simpa using S.len, fun b q => ?_, fun b q => ?_, fun b q => ?_⟩, z, nb⟩
  · replace q := getElem?_set' q
    rcases q with ⟨rfl, q, lt⟩ | ⟨hj, q⟩
    · cases q
    · obtain ⟨v, q1, q2⟩ := S.val j p q
      exact ⟨v, by rw [List.getElem?_set_ne (Ne.symm hj)]; exact q1, q2.keep kp⟩
  · replace q := getElem?_set' q
    rcases q with ⟨rfl, q, lt⟩ | ⟨hj, q⟩
    · cases q
    · obtain ⟨b, q1, q2, q3, q4, q5, q6⟩ := S.own j o' q
      have hb : b ≠ a := fun w => hj (S.sep j i o' o b q e q1 (by rw [w]; exact ea))
      exact ⟨b, by rw [List.getElem?_set_ne (Ne.symm hj)]; exact q1, q2.keep kp (fun u => oth b u hb), ⟨q3, hb⟩, q4, q5, q6⟩
  · replace q1 := getElem?_set' q1
    rcases q1 with ⟨rfl, q1, lt⟩ | ⟨hj, q1⟩
    · cases q1
    · replace q2 := getElem?_set' q2
      rcases q2 with ⟨rfl, q2, lt⟩ | ⟨hl, q2⟩
      · cases q2
      · rw [List.getElem?_set_ne (Ne.symm hj)] at q3
        rw [List.getElem?_set_ne (Ne.symm hl)] at q4
        exact S.sep j l o' o'' b q1 q2 q3 q4
  · obtain ⟨q1, q2, q3⟩ := S.hp b o' q
    have hb : b ≠ a := fun w => by rw [w, n] at q; cases q
    exact ⟨q1.keep kp (fun u => oth b u hb), ⟨q2, hb⟩, q3⟩
  · obtain ⟨v, w⟩ := S.fin b q.1
    exact ⟨v, oth b v q.2 w⟩
  · obtain ⟨q1, xs, q2⟩ := S.zf b q
    have hb : b ≠ a := fun w => nz (by rw [← w]; exact q)
    exact ⟨⟨q1, hb⟩, xs, oth b _ hb q2⟩
  · obtain ⟨v, w⟩ := S.bt b q
    exact ⟨v, oth b v (fun w => nb (by rw [← w]; exact q)) w⟩
theorem retE_mono {D D' : PD} (l : PD.le D D') {e : EV} {σ : PSt} {h : PH} (q : retE D e σ h) : retE D' e σ h := by
  cases e with
  | val p => exact l.rt _ _ _ q
  | own p => exact l.rt _ _ _ q
  | bor i =>
    have q : retB D i σ h := q
    show retB D' i σ h
    unfold retB at q ⊢
    split at q
    · exact l.rt _ _ _ q
    · exact l.rt _ _ _ q
    · exact q.elim
theorem js_ret (he : JE S e Te) : JS S (.Return (some e) pos) (sRet Te) where
  mono := fun D D' σ h l q => he.mono _ _ _ _ _ _ (fun _ _ _ q => retE_mono l q) l.ex q
  run := fun X W A tk hp => by
    refine ps_weak (ps_ret (he.run X W A tk)) fun D σ H q => ?_
    obtain ⟨F, σp, h, s, q⟩ := q
    refine ⟨F, σp, h, s, he.mono _ _ _ _ _ _ (fun ev σ1 h1 q1 F1 H1 v f1 r1 => ?_) (fun _ _ _ z => ex_of z) q⟩
    cases ev with
    | val p => exact q1 F1 H1 σ v f1 r1
    | own o =>
      obtain ⟨a, u, rfl, n, eu, c, sm, z, nw⟩ := r1
      refine q1 F1 H1 σ _ f1 ⟨a, u, rfl, n, eu, c, sm, z, fun w => ?_⟩
      rw [f1.bb] at w
      obtain ⟨u', e'⟩ := s.bt a w
      rw [nw] at e'; cases e'
    | bor i =>
      have q1 : retB (pd X.K X.mg F H D W) i σ1 h1 := q1
      obtain ⟨s1, ev⟩ := r1
      unfold retB at q1
      split at q1
      · rename_i p e
        obtain ⟨u, eu, r⟩ := s1.val i p e
        rw [ev] at eu; cases eu
        exact q1 F1 H1 σ v f1 ⟨s1, r⟩
      · rename_i o e
        obtain ⟨a, ea, _⟩ := s1.own i o e
        rw [ev] at ea; cases ea
        exact q1 (F1.but a) H1 (σ.set i none) _ ⟨f1.zz, f1.bb, f1.st, fun b z => f1.nw b z.1, f1.dm⟩ (s1.give e ev)
      · exact q1.elim
theorem js_retN : JS S (.Return none pos) sRetN := ⟨fun X W A tk hp => ps_weak ps_retN fun D σ H ⟨F, σp, h, s, q⟩ => q F H σ .non .refl ⟨s, .non⟩, fun D D' σ h l q => l.rt _ _ _ q⟩
theorem putE_mono {i : Nat} {Q Q' : PSt → PH → Prop} {e : EV} {σ : PSt} {h : PH} (k : ∀ σ h, Q σ h → Q' σ h) (q : putE i Q e σ h) : putE i Q' e σ h := by
  cases e with
  | own o => exact k _ _ q
  | val p => exact k _ _ q
  | bor j =>
    have q : share (.bor j) σ h (fun p σ1 h1 => Q (σ1.set i (some (.val p))) h1) := q
    have r : share (.bor j) σ h (fun p σ1 h1 => Q' (σ1.set i (some (.val p))) h1) := share_mono (fun _ _ _ z => k _ _ z) q
    exact r
theorem putE_ok {K : PySem.W.Frag} {F F1 : Ft} {σ : L2.St} {H H1 : Hp} {σp σ1 : PSt} {h h1 : PH} {ev : EV} {v : V} {i : Nat} {Q : PSt → PH → Prop} (s : Sm K H F σp h σ) (f1 : Fr F H F1 H1) (r : RS K H F1 σ1 h1 σ H1 ev v) (q : putE i Q ev σ1 h1) :
    ∃ F2 σ2 h2, Fr F H F2 H1 ∧ Sm K H1 F2 σ2 h2 (σ.set i (some v)) ∧ Q σ2 h2 := by
  have gen : ∀ e, RE K F1 σ H1 e v → share e σ1 h1 (fun p σ2 h2 => Q (σ2.set i (some (.val p))) h2) → ∃ F2 σ2 h2, Fr F H F2 H1 ∧ Sm K H1 F2 σ2 h2 (σ.set i (some v)) ∧ Q σ2 h2 := fun e re q => by
    obtain ⟨F2, p, σ2, h2, s2, rp, q2, k2, f2⟩ := share_ok r.sm re q
    exact ⟨F2, _, h2, f1.trans f2, s2.setVal rp, q2⟩
  cases ev with
  | val p => exact gen _ r.re q
  | bor j => exact gen _ r.re q
  | own o =>
    obtain ⟨a, u, rfl, n, eu, c, sm, z, nw⟩ := r
    refine ⟨_, _, h1, f1.add nw, sm.setOwn n eu c z (fun w => ?_), q⟩
    rw [f1.bb] at w
    obtain ⟨u', e'⟩ := s.bt a w
    rw [nw] at e'; cases e'
theorem js_set (i : Nat) {pos' : Pos} (he : JE S e Te) (hN : S.N[i]? = some x := by rfl) (hx : Loc S.sc x := by first | exact Or.inl rfl | exact Or.inr rfl) (hf : fnOk S x := by first | exact Or.inl rfl | exact Or.inr rfl) (hs : ∀ env, swapsWith e (some (.Name x pos')) pos.line env = pure false := by intro _; rfl) : JS S (.Assign [.Name x pos'] e pos) (sSet i Te) where
  mono := fun D D' σ h l q => he.mono _ _ _ _ _ _ (fun _ _ _ q => putE_mono l.nx q) l.ex q
  run := fun X W A tk hp => by
    refine ps_weak (ps_set (i := i) A.nd (by rw [A.N]; exact hN) (loc_of A hx) (he.run X W A tk) (hs _) (hf.imp (A.fn x) fun z => by rw [A.sc]; exact z)) fun D σ H q => ?_
    obtain ⟨F, σp, h, s, q⟩ := q
    refine ⟨F, σp, h, s, he.mono _ _ _ _ _ _ (fun ev σ1 h1 q1 F1 H1 v f1 r1 => ?_) (fun _ _ _ z => ex_of z) q⟩
    obtain ⟨F2, σ2, h2, f2, s2, q2⟩ := putE_ok s f1 r1 q1
    exact q2 F2 H1 _ f2 s2
/-- name = [..] on one line -/
theorem js_setLc (i : Nat) {y : Str} {py spos : Pos} {elt tg iter : Expr} {ifs : List Expr} {scope : Scope} {own : List (Str × Nat)} {it : WI} {tgt : WG} {cond : WT} {te : WE} {ix : List Nat} (hi : JI S tg iter it) (ok : blkC S.N S.sc scope own = true) (hg : JG (S.blk scope) tg ix tgt) (ht : JTs (S.blk scope) ifs cond) (he : JE (S.blk scope) elt te)
    (hN : S.N[i]? = some y := by rfl) (hy : S.sc.names.lookup y = some .local := by rfl) (hl : (py.line == pos.line) = true := by rfl) (hnl : (scope.names.any fun (n, k) => n == y && (k == .local || k == .cell)) = false := by decide +kernel) (hk : S.sc.kind = .function := by rfl)
    (hix : ∀ j ∈ ix, j ∈ own.map (·.2) := by decide) (nd : (own.map (·.2)).Nodup := by decide) (hc : S.calm = true := by rfl) (hs : ∀ env x, foldedSetIterable iter env x = pure x := by intro _ _; rfl) :
    JS S (.Assign [.Name y py] (.ListComp elt [⟨tg, iter, ifs, 0⟩] scope pos) spos) (sSet i (wLc it tgt cond te (own.map (·.2)))) where
  mono := fun D D' σ h l q => hi.mono _ _ _ _ _ _ (fun xs σ h q => lcGo_mono hg.mono ht.mono he.mono (fun p σ h q => putE_mono l.nx q) q) l.ex q
  run := fun X W A tk hp => by
    have okX : BlkOk X.N X.env.scope scope own := by rw [A.N, A.sc]; exact blkOk_by ok
    have hyX : X.env.scope.names.lookup y = some .local := by rw [A.sc]; exact hy
    refine ps_weak (ps_setLc (i := i) (te := LE X.K X.mg te fun _ _ _ _ => False) (g := LG X.K ix tgt) (tt := LT X.K X.mg cond fun _ _ _ _ => False) (A.calm hc) A.nd (by rw [A.N]; exact hN) hyX (sw_true (by rw [A.sc]; exact hk) hyX hl hnl) (hi.run X W A tk) okX (fun s H C cl fp => hg.run _ (A.blk s H scope cl C fp)) (fun s H C cl fp => ht.run _ _ (A.blk s H scope cl C fp) takes0) (fun s H C cl fp => he.run _ _ (A.blk s H scope cl C fp) takes0) (hs _)) fun D σ H q => ?_
    obtain ⟨F, σp, h, s, q⟩ := q
    refine lc_ok (scope := scope) hg.mono ht.mono he.mono hi.mono hix nd ⟨F, σp, h, s, ?_⟩
    refine hi.mono _ _ _ _ _ _ (fun xs σ1 h1 q => lcGo_mono hg.mono ht.mono he.mono (fun ys σ2 h2 q F1 H1 v f1 r1 => ?_) q) (fun _ _ _ z => ex_of z) q
    obtain ⟨F2, σ2, h2, f2, s2, q2⟩ := putE_ok s f1 r1 q
    exact q2 F2 H1 _ f2 s2
end
end PP
set_option Elab.async false
set_option linter.all false
set_option maxRecDepth 100000
set_option maxHeartbeats 4000000
namespace PP
open PySem PySem.Spec PyProof.Rows L2

/-! ### several names at once -/
def sPar (is : List Nat) (U : WA) : WS := fun D σ h => U σ h (fun es σ1 h1 => is.length = es.length ∧ shareO es σ1 h1 fun es' σ2 h2 => is.length = es'.length ∧ D.nx (putEs σ2 is es') h2) D.ex
theorem sPar_mono {is : List Nat} {U : WA} (m : Mono U) : MonoS (sPar is U) := fun D D' σ h l q => m _ _ _ _ _ _ (fun es σ h ⟨a, q⟩ => ⟨a, shareO_mono (fun _ _ _ ⟨b, z⟩ => ⟨b, l.nx _ _ z⟩) q⟩) l.ex q
theorem par_ok {X : Cx} {W : WX} {U : WA} {is : List Nat} (mu : Mono U) {D : Ends} {σ : L2.St} {H : Hp} (q : LS X.K X.mg (sPar is U) W D σ H) :
    LA2 X.K X.mg U W σ H fun vs H1 => is.length = vs.length ∧ ∃ F' σ2 h2 F0 H0, Fr F0 H0 F' H1 ∧ Sm X.K H1 F' σ2 h2 (putVs σ is vs) ∧ (pd X.K X.mg F0 H0 D W).nx σ2 h2 := by
  obtain ⟨F, σp, h, s, q⟩ := q
  refine ⟨F, σp, h, s, mu _ _ _ _ _ _ (fun es σ1 h1 ⟨hl, q1⟩ F1 H1 vs As C => ?_) (fun _ _ _ z => ex_of z) q⟩
  obtain ⟨F2, es', σ2, h2, s2, r2, ⟨hl2, q2⟩, f2⟩ := shareO_ok C.sm C.re q1
  have nb : ∀ a ∈ As, ¬ F.z a ∧ ¬ F2.b a := fun a ha => ⟨(fun z => by
    obtain ⟨_, xs, e⟩ := s.zf a z; rw [C.nw a ha] at e; cases e), (fun z => by
    rw [f2.bb, C.bb] at z
    obtain ⟨u, e⟩ := s.bt a z; rw [C.nw a ha] at e; cases e)⟩
  have p := put_ok (is := is) (G := F.z) s2 r2 (fun b => by rw [f2.zz]; exact C.zz b) C.nd nb hl2
  refine ⟨by rw [hl2, r2.len], ⟨F2.f, F.z, F2.b⟩, _, h2, F, H, ⟨rfl, by rw [f2.bb]; exact C.bb, fun b u e n => ?_, fun b w => ?_, fun b w => C.fr.dm b (f2.dm b w)⟩, p, q2⟩
  · exact C.fr.st b u e n
  · rcases f2.nw b w with w | w
    · exact C.fr.nw b w
    · exact .inr (C.fr.dm b w)
section
variable {S : Sc} {a b c : Expr} {es : List Expr} {U : WA} {pos px py pz pt pt2 : Pos} {x y z : Str}
theorem js_par2 (i j : Nat) {kt k2 : Nat} (ha : JA2 S [a, b] U) (hi : S.N[i]? = some x := by rfl) (hj : S.N[j]? = some y := by rfl) (hij : i ≠ j := by decide) (hx : S.sc.names.lookup x = some .local := by rfl) (hy : S.sc.names.lookup y = some .local := by rfl)
    (hw : ∀ env, env.scope = S.sc → swappedStores [.Tuple [.Name x px, .Name y py] kt pt] (.Tuple [a, b] k2 pt2) env = pure (some [x, y]))
    (hs : ∀ env, swapsWithSole [.Tuple [.Name x px, .Name y py] kt pt] (.Tuple [a, b] k2 pt2) pos.line env = pure false := by intro _; rfl) (hc : S.calm = true := by rfl) : JS S (.Assign [.Tuple [.Name x px, .Name y py] kt pt] (.Tuple [a, b] k2 pt2) pos) (sPar [i, j] U) where
  mono := sPar_mono ha.mono
  run := fun X W A tk hp => by
    refine ps_weak (ps_par (i := i) (j := j) (A.calm hc) A.nd (by rw [A.N]; exact hi) (by rw [A.N]; exact hj) hij (by rw [A.sc]; exact hx) (by rw [A.sc]; exact hy) (ha.run X W A tk) (hw _ A.sc) (hs _)) fun D σ H q => ?_
    obtain ⟨F, σp, h, s, q⟩ := par_ok ha.mono q
    refine ⟨F, σp, h, s, ha.mono _ _ _ _ _ _ (fun es σ1 h1 q1 F1 H1 vs As C => ?_) (fun _ _ _ z => z) q⟩
    obtain ⟨hl, F', σ2, h2, F0, H0, f', s', q'⟩ := q1 F1 H1 vs As C
    match vs, hl with
    | [v, w], _ => exact ⟨v, w, rfl, q' F' H1 _ f' s'⟩
theorem js_par3 (i j l : Nat) {kt k2 : Nat} (ha : JA2 S [a, b, c] U) (hi : S.N[i]? = some x := by rfl) (hj : S.N[j]? = some y := by rfl) (hl : S.N[l]? = some z := by rfl) (hij : i ≠ j := by decide) (hil : i ≠ l := by decide) (hjl : j ≠ l := by decide) (hx : S.sc.names.lookup x = some .local := by rfl) (hy : S.sc.names.lookup y = some .local := by rfl) (hz : S.sc.names.lookup z = some .local := by rfl)
    (hw : ∀ env, env.scope = S.sc → swappedStores [.Tuple [.Name x px, .Name y py, .Name z pz] kt pt] (.Tuple [a, b, c] k2 pt2) env = pure (some [x, y, z]))
    (hs : ∀ env, swapsWithSole [.Tuple [.Name x px, .Name y py, .Name z pz] kt pt] (.Tuple [a, b, c] k2 pt2) pos.line env = pure false := by intro _; rfl) (hc : S.calm = true := by rfl) : JS S (.Assign [.Tuple [.Name x px, .Name y py, .Name z pz] kt pt] (.Tuple [a, b, c] k2 pt2) pos) (sPar [i, j, l] U) where
  mono := sPar_mono ha.mono
  run := fun X W A tk hp => by
    refine ps_weak (ps_par3 (i := i) (j := j) (l := l) (A.calm hc) A.nd (by rw [A.N]; exact hi) (by rw [A.N]; exact hj) (by rw [A.N]; exact hl) hij hil hjl (by rw [A.sc]; exact hx) (by rw [A.sc]; exact hy) (by rw [A.sc]; exact hz) (ha.run X W A tk) (hw _ A.sc) (hs _)) fun D σ H q => ?_
    obtain ⟨F, σp, h, s, q⟩ := par_ok ha.mono q
    refine ⟨F, σp, h, s, ha.mono _ _ _ _ _ _ (fun es σ1 h1 q1 F1 H1 vs As C => ?_) (fun _ _ _ z => z) q⟩
    obtain ⟨hl, F', σ2, h2, F0, H0, f', s', q'⟩ := q1 F1 H1 vs As C
    match vs, hl with
    | [v, w, u], _ => exact ⟨v, w, u, rfl, q' F' H1 _ f' s'⟩
/-- names in a row, as targets of a tuple -/
def tNames : List Nat → TGs
  | [] => gNil
  | i :: is => gCons (gName i) (tNames is)
theorem tNames_ok : ∀ {is : List Nat} {vs : List V} {σ : L2.St} {H : Hp} {Q : L2.St → Hp → Prop}, is.length = vs.length → Q (putVs σ is vs) H → tNames is vs σ H Q
  | [], [], _, _, _, _, q => ⟨rfl, q⟩
  | i :: is, v :: vs, σ, H, Q, hl, q => ⟨v, vs, rfl, tNames_ok (is := is) (by simpa using hl) q⟩
theorem REOV.keep {K : PySem.W.Frag} {F F' : Addr → Prop} {H H' : Hp} (k : Keep F H F' H') : ∀ {As : List Addr} {es : List EV} {vs : List V}, (∀ a ∈ As, ∀ u, H a = some u → H' a = some u) → REOV K F H As es vs → REOV K F' H' As es vs
  | _, _, _, _, .nil => .nil
  | _, _, _, e, .val r q => .val (r.keep k) (REOV.keep k e q)
  | _, _, _, e, .own ea r q => .own (e _ List.mem_cons_self _ ea) (r.keep k) (REOV.keep k (fun a ha => e a (List.mem_cons_of_mem _ ha)) q)
/-- a, b, .. = x, y, ..: through a tuple (names that are cells, or four and more) -/
theorem js_tupN {ts : List Expr} {is : List Nat} {kt k2 : Nat} (ha : JA2 S es U) (hg : ∀ X, At S X → PGs X ts (tNames is)) (hsz : is.length ≤ 1000 := by decide) (hn : ∀ env, (assignEach ts env).length = is.length := by intro _; rfl) (hst : ∀ env, (assignEach ts env).findIdx? (·.1) = none := by intro _; rfl)
    (hw : ∀ env, env.scope = S.sc → swappedStores [.Tuple ts kt pt] (.Tuple es k2 pt2) env = pure none)
    (hs : ∀ env, swapsWithSole [.Tuple ts kt pt] (.Tuple es k2 pt2) pos.line env = pure false := by intro _; rfl) (h1 : ∀ env, (assignEach [.Tuple ts kt pt] env).map (·.2) = [assign (.Tuple ts kt pt) env] := by intro _; rfl) (hc : S.calm = true := by rfl) : JS S (.Assign [.Tuple ts kt pt] (.Tuple es k2 pt2) pos) (sPar is U) where
  mono := sPar_mono ha.mono
  run := fun X W A tk hp => by
    refine ps_weak (ps_asg (pe_tup (ha.run X W A tk)) (pg_tup (A.calm hc) (hg X A) (hn _) (hst _)) (hs _) (hw _ A.sc) (h1 _)) fun D σ H q => ?_
    obtain ⟨F, σp, h, s, q⟩ := par_ok ha.mono q
    refine ⟨F, σp, h, s, ha.mono _ _ _ _ _ _ (fun es σ1 h1 q1 F1 H1 vs As C => ?_) (fun _ _ _ z => z) q⟩
    obtain ⟨hl, F', σ2, h2, F0, H0, f', s', q'⟩ := q1 F1 H1 vs As C
    refine ⟨by rw [← hl]; exact Nat.le_of_lt (small1000 hsz), fun p n => ⟨p, vs, rfl, .inl (.inl upd_same), hl.symm, tNames_ok hl ?_⟩⟩
    exact q' F' _ _ (f'.trans (.new n)) (s'.new n)
theorem pgs_names1 {X : Cx} {i : Nat} {x : Str} {p : Pos} {ts : List Expr} {is : List Nat} (A : At S X) (hN : S.N[i]? = some x) (hx : Loc S.sc x) (hf : fnOk S x) (h : PGs X ts (tNames is)) (hs : (assignEach (.Name x p :: ts) X.env).map (·.2) = assign (.Name x p) X.env :: (assignEach ts X.env).map (·.2)) : PGs X (.Name x p :: ts) (tNames (i :: is)) :=
  pgs_cons (pg_name (i := i) A.nd (by rw [A.N]; exact hN) (loc_of A hx) (hf.imp (A.fn x) fun z => by rw [A.sc]; exact z)) h hs
/-- a target of any kind -/
def sAsg (T : WE) (G : WG) : WS := fun D σ h => T σ h (fun e σ1 h1 => share e σ1 h1 fun p σ2 h2 => G p σ2 h2 D.nx) D.ex
theorem js_asg {tg e : Expr} {T : WE} {G : WG} {ix : List Nat} (he : JE S e T) (hg : JG S tg ix G) (hw : ∀ env, env.scope = S.sc → swappedStores [tg] e env = pure none := by intro _ _; rfl) (hs : ∀ env, swapsWithSole [tg] e pos.line env = pure false := by intro _; rfl)
    (h1 : ∀ env, (assignEach [tg] env).map (·.2) = [assign tg env] := by intro _; rfl) : JS S (.Assign [tg] e pos) (sAsg T G) where
  mono := fun D D' σ h l q => he.mono _ _ _ _ _ _ (fun _ _ _ q => share_mono (fun _ _ _ q => hg.mono _ _ _ _ _ l.nx q) q) l.ex q
  run := fun X W A tk hp => by
    refine ps_weak (ps_asg (he.run X W A tk) (hg.run X A) (hs _) (hw _ A.sc) (h1 _)) fun D σ H q => ?_
    obtain ⟨F, σp, h, s, q⟩ := q
    refine ⟨F, σp, h, s, he.mono _ _ _ _ _ _ (fun ev σ1 h1 q1 F1 H1 v f1 r1 => ?_) (fun _ _ _ z => ex_of z) q⟩
    have q1 : share (pend ev) σ1 h1 (fun p σ2 h2 => G p σ2 h2 (pd X.K X.mg F H D W).nx) := by cases ev <;> exact q1
    obtain ⟨F2, p, σ2, h2, s2, rp, q2, k2, f2⟩ := share_ok r1.sm r1.re q1
    exact ⟨F2, σ2, h2, p, s2, rp, hg.mono _ _ _ _ _ (fun σ3 h3 q3 F3 H3 σ' f3 s3 _ _ => q3 F3 H3 σ' ((f1.trans f2).trans f3) s3) q2⟩
/-! ### for, while -/
/-- over the items, one after the other -/
def forGo (G : WG) (T : WS) (D : PD) : List PV → PSt → PH → Prop
  | [], σ, h => D.nx σ h
  | x :: xs, σ, h => G x σ h fun σ1 h1 => T { D with nx := forGo G T D xs, ct := forGo G T D xs, bk := D.nx } σ1 h1
def sFor (I : WI) (G : WG) (T : WS) : WS := fun D σ h => I σ h (fun items σ1 h1 => forGo G T D items σ1 h1) D.ex
theorem forGo_mono {G : WG} {T : WS} (mg : ∀ p σ h Q Q', (∀ σ h, Q σ h → Q' σ h) → G p σ h Q → G p σ h Q') (mt : MonoS T) {D D' : PD} (l : PD.le D D') : ∀ {xs : List PV} {σ : PSt} {h : PH}, forGo G T D xs σ h → forGo G T D' xs σ h
  | [], σ, h, q => l.nx _ _ q
  | x :: xs, σ, h, q => mg _ _ _ _ _ (fun σ1 h1 q => mt { D with nx := forGo G T D xs, ct := forGo G T D xs, bk := D.nx } { D' with nx := forGo G T D' xs, ct := forGo G T D' xs, bk := D'.nx } _ _ ⟨fun _ _ z => forGo_mono mg mt l z, l.rt, l.nx, fun _ _ z => forGo_mono mg mt l z, l.ex⟩ q) q
theorem js_for {tg iter : Expr} {body : List Stmt} {I : WI} {G : WG} {T : WS} {ix : List Nat} (hi : JI S tg iter I) (hg : JG S tg ix G) (hb : JSs S body T) (hs : ∀ env x, foldedSetIterable iter env x = pure x := by intro _ _; rfl) (hc : S.calm = true := by rfl) : JS S (.For tg iter body [] pos) (sFor I G T) where
  mono := fun D D' σ h l q => hi.mono _ _ _ _ _ _ (fun _ _ _ q => forGo_mono hg.mono hb.mono l q) l.ex q
  run := fun X W A tk hp => by
    refine ps_weak (ps_for hp (A.calm hc) (hi.run X W A tk) (hg.run X A) (hb.run X W A tk hp) (hs _)) fun D σ H q => ?_
    obtain ⟨F, σp, h, s, q⟩ := q
    refine ⟨F, σp, h, s, hi.mono _ _ _ _ _ _ (fun items σ1 h1 q1 F1 H1 J f1 s1 wk => ?_) (fun _ _ _ z => ex_of z) q⟩
    obtain ⟨Gw, Y, wk, gG, gY⟩ := wk
    let P := pd X.K X.mg F H D W
    refine ⟨fun i m σ2 H2 => m = items.length - i ∧ i ≤ items.length ∧ ∃ F2 σp2 h2, Sm X.K H2 F2 σp2 h2 σ2 ∧ Fr F1 H1 F2 H2 ∧ forGo G T P (items.drop i) σp2 h2, ⟨items.length, by simp, Nat.zero_le _, F1, σ1, h1, s1, .refl, q1⟩, ?_⟩
    rintro i m σ2 H2 ⟨rfl, hle, F2, σp2, h2, s2, f2, go⟩
    by_cases hlt : i < items.length
    · refine .inr ⟨wk.goes i H2 hlt (gG F2 H2 f2.keep), fun σ' H' => ∃ F3 σp3 h3, Sm X.K H' F3 σp3 h3 σ' ∧ Fr F1 H1 F3 H' ∧ forGo G T P (items.drop (i + 1)) σp3 h3, fun σ' H' ⟨F3, σp3, h3, a, b, c⟩ => ⟨items.length - (i + 1), by omega, rfl, hlt, F3, σp3, h3, a, b, c⟩, fun x H3 y => ?_⟩
      have hx : items[i]? = some items[i] := List.getElem?_eq_getElem hlt
      obtain ⟨h3, rx⟩ := gY F2 H2 i x H3 _ f2.keep s2.fin (wk.yields i H2 x H3 hlt (gG F2 H2 f2.keep) y) hx
      have f3 : Fr F2 H2 F2 H3 := by
        rcases h3 with rfl | ⟨T, u, nT, rfl⟩
        · exact .refl
        · exact .new nT
      have s3 : Sm X.K H3 F2 σp2 h2 σ2 := by
        rcases h3 with rfl | ⟨T, u, nT, rfl⟩
        · exact s2
        · exact s2.new nT
      rw [List.drop_eq_getElem_cons hlt] at go
      refine ⟨F2, σp2, h2, _, s3, rx, hg.mono _ _ _ _ _ (fun σ4 h4 q4 F4 H4 τ f4 s4 k4 l4 => ?_) go⟩
      have g4 := (f2.trans f3).trans f4
      refine ⟨F4, σ4, h4, s4, hb.mono { P with nx := forGo G T P (items.drop (i + 1)), ct := forGo G T P (items.drop (i + 1)), bk := P.nx } _ _ _ ?_ q4⟩
      exact ⟨fun σ5 h5 q F5 H5 τ' f5 s5 => ⟨F5, σ5, h5, s5, g4.trans f5, q⟩, fun e σ5 h5 q F5 H5 τ' v f5 r5 => q F5 H5 τ' v (f1.trans (g4.trans f5)) r5, fun σ5 h5 q F5 H5 τ' f5 s5 => q F5 H5 τ' (f1.trans (g4.trans f5)) s5,
        fun σ5 h5 q F5 H5 τ' f5 s5 => ⟨F5, σ5, h5, s5, g4.trans f5, q⟩, fun x σ5 h5 q F5 H5 τ' cls d f5 s5 r => q F5 H5 τ' cls d (f1.trans (g4.trans f5)) s5 r⟩
    · have e : i = items.length := by omega
      subst e
      rw [List.drop_length] at go
      exact .inl ⟨wk.stops H2 (gG F2 H2 f2.keep), go F2 H2 σ2 (f1.trans f2) s2⟩
/-- while: a word and a measure -/
def sWhile (C : WT) (T : WS) : WS := fun D σ h => ∃ I : Nat → PSt → PH → Prop, (∃ m, I m σ h) ∧ ∀ m σ h, I m σ h → C σ h (fun b σ1 h1 => if b = true then T { D with nx := fun σ' h' => ∃ m', m' < m ∧ I m' σ' h', ct := fun σ' h' => ∃ m', m' < m ∧ I m' σ' h', bk := D.nx } σ1 h1 else D.nx σ1 h1) D.ex
theorem js_while {c : Expr} {body : List Stmt} {C : WT} {T : WS} (hc : JT S c C) (hb : JSs S body T) : JS S (.While c body [] pos) (sWhile C T) where
  mono := fun D D' σ h l ⟨I, i0, q⟩ => ⟨I, i0, fun m σ h im => hc.mono _ _ _ _ _ _ (fun b σ1 h1 z => by
    cases b with
    | false => exact l.nx _ _ z
    | true => exact hb.mono { D with nx := fun σ' h' => ∃ m', m' < m ∧ I m' σ' h', ct := fun σ' h' => ∃ m', m' < m ∧ I m' σ' h', bk := D.nx } { D' with nx := fun σ' h' => ∃ m', m' < m ∧ I m' σ' h', ct := fun σ' h' => ∃ m', m' < m ∧ I m' σ' h', bk := D'.nx } _ _ ⟨fun _ _ z => z, l.rt, l.nx, fun _ _ z => z, l.ex⟩ z) l.ex (q m σ h im)⟩
  run := fun X W A tk hp => by
    refine ps_weak (ps_while hp (hc.run X W A tk) (hb.run X W A tk hp)) fun D σ H q => ?_
    obtain ⟨F, σp, h, s, I, ⟨m0, i0⟩, q⟩ := q
    refine ⟨fun m σ2 H2 => ∃ F2 σp2 h2, Sm X.K H2 F2 σp2 h2 σ2 ∧ Fr F H F2 H2 ∧ I m σp2 h2, ⟨m0, F, σp, h, s, .refl, i0⟩, ?_⟩
    rintro m σ2 H2 ⟨F2, σp2, h2, s2, f2, im⟩
    refine ⟨F2, σp2, h2, s2, hc.mono _ _ _ _ _ _ (fun b σ3 h3 q3 F3 H3 f3 s3 => ?_) (fun _ _ _ z => (ex_of z).step f2) (q m σp2 h2 im)⟩
    have g := f2.trans f3
    cases b with
    | false => exact q3 F3 H3 σ2 g s3
    | true =>
      refine ⟨fun σ' H' => ∃ m', m' < m ∧ ∃ F4 σ4 h4, Sm X.K H' F4 σ4 h4 σ' ∧ Fr F H F4 H' ∧ I m' σ4 h4, fun σ' H' z => z, ?_⟩
      let P := pd X.K X.mg F H D W
      refine ⟨F3, σ3, h3, s3, hb.mono { P with nx := fun σ' h' => ∃ m', m' < m ∧ I m' σ' h', ct := fun σ' h' => ∃ m', m' < m ∧ I m' σ' h', bk := P.nx } _ _ _ ?_ q3⟩
      exact ⟨fun σ5 h5 ⟨m', l, q⟩ F5 H5 τ' f5 s5 => ⟨m', l, F5, σ5, h5, s5, g.trans f5, q⟩, fun e σ5 h5 q F5 H5 τ' v f5 r5 => q F5 H5 τ' v (g.trans f5) r5, fun σ5 h5 q F5 H5 τ' f5 s5 => q F5 H5 τ' (g.trans f5) s5,
        fun σ5 h5 ⟨m', l, q⟩ F5 H5 τ' f5 s5 => ⟨m', l, F5, σ5, h5, s5, g.trans f5, q⟩, fun x σ5 h5 q F5 H5 τ' cls d f5 s5 r => q F5 H5 τ' cls d (g.trans f5) s5 r⟩
end
end PP
set_option Elab.async false
set_option linter.all false
set_option maxRecDepth 100000
set_option maxHeartbeats 4000000
namespace PP
open PySem PySem.Spec PyProof.Rows L2

/-! ### name op= e -/
theorem LE_wV {K : PySem.W.Frag} {mg : Str → Option Value} {W : WX} {σ : L2.St} {H : Hp} {Q : VK} {i : Nat} (q : LE K mg (wV i) W σ H Q) : ∃ v, σ[i]? = some (some v) ∧ Q v H := by
  obtain ⟨F, σp, h, s, q⟩ := q
  unfold wV at q
  split at q
  · rename_i p e
    obtain ⟨v, ev, r⟩ := s.val i p e
    exact ⟨v, ev, q F H v .refl (rsv s r)⟩
  · rename_i o e
    obtain ⟨a, ea, _⟩ := s.own i o e
    have r : RS K H F σp h σ H (.bor i) (.ref a) := ⟨s, ea⟩
    exact ⟨_, ea, q F H _ .refl r⟩
  · exact q.elim
section
variable {S : Sc} {e : Expr} {Te : WE} {pos : Pos} {x : Str}
theorem js_aug (i : Nat) {pos' : Pos} {op : Operator} {g : P2} (ho : OpS S (inplaceOp op) g) (he : JE S e Te) (hN : S.N[i]? = some x := by rfl) (hx : Loc S.sc x := by first | exact Or.inl rfl | exact Or.inr rfl) (hf : fnOk S x := by first | exact Or.inl rfl | exact Or.inr rfl) :
    JS S (.AugAssign (.Name x pos') op e pos) (sSet i (w2 g (wV i) Te)) where
  mono := fun D D' σ h l q => (w2_mono wV_mono he.mono ho.mono) _ _ _ _ _ _ (fun _ _ _ q => putE_mono l.nx q) l.ex q
  run := fun X W A tk hp => by
    obtain ⟨r, o, k⟩ := ho.run X A
    have ip : PIp X op r := fun pins s σ H x y v u Q I rx ry h => o pins s σ H x y v u Q I rx ry h
    refine ps_weak (ps_aug (i := i) A.nd (by rw [A.N]; exact hN) (loc_of A hx) (he.run X W A tk) ip (hf.imp (A.fn x) fun z => by rw [A.sc]; exact z)) fun D σ H q => ?_
    obtain ⟨F, σp, h, s, q⟩ := q
    have z := LE.two (X := X) (E := (pd X.K X.mg F H D W).ex) (W := W) (R := fun x y H2 => r x y H2 fun z H3 => D.nx (σ.set i (some z)) H3) (G := fun ea eb σ2 h2 => g (vw σ2 h2 ea) (vw σ2 h2 eb) fun r => putE i (pd X.K X.mg F H D W).nx r σ2 h2) wV_mono he.mono s q (fun _ _ _ z => ex_of z) fun ea eb σ2 h2 F2 H2 x y f rx ry q => by
      refine k F2 σ2 h2 σ H2 _ _ x y _ ry.sm (rx.rt ry.sm) ry.rt q _ fun F3 H3 e3 z f3 r3 q3 => ?_
      obtain ⟨F4, σ4, h4, f4, s4, q4⟩ := putE_ok s (f.trans f3) (r3.early f.dm) q3
      exact q4 F4 H3 _ f4 s4
    obtain ⟨v, ev, z⟩ := LE_wV z
    exact ⟨v, ev, z⟩
/-! int op= int, text += text -/
theorem s_iaddI : OpS S (inplaceOp .Add) (pI2 CAny fun i j => .int (i + j)) := ops_I (fun _ _ => opr_I0 iop_add) fun _ _ _ _ _ => .int _
theorem s_isub : OpS S (inplaceOp .Sub) (pI2 CAny fun i j => .int (i - j)) := ops_I (fun _ _ => opr_I0 iop_sub) fun _ _ _ _ _ => .int _
theorem s_imul : OpS S (inplaceOp .Mult) (pI2 CMul fun i j => .int (i * j)) := ops_I (fun _ _ => iop_mul) fun _ _ _ _ _ => .int _
theorem s_ifdiv : OpS S (inplaceOp .FloorDiv) (pI2 CDivW fun i j => .int (i / j)) := ops_I (fun _ _ => iop_fdivW) fun _ _ _ _ _ => .int _
theorem s_imod : OpS S (inplaceOp .Mod) (pI2 (fun _ j => 0 < j) fun i j => .int (i % j)) := ops_I (fun _ _ => iop_mod) fun _ _ _ _ _ => .int _
theorem s_iaddS : OpS S (inplaceOp .Add) pStrAdd where
  mono := fun x y Q Q' i ⟨a, b, e1, e2, l, q⟩ => ⟨a, b, e1, e2, l, i _ q⟩
  run := fun X A => ⟨_, iop_add_str, fun F σp h σ H px py x y Q s rx ry ⟨a, b, e1, e2, l, q⟩ QV k => by
    subst e1; subst e2
    rw [rx.str, ry.str]
    exact ⟨a, b, rfl, rfl, l, k F H _ _ .refl (rsv s (.str _)) q⟩⟩
def pIAdd : P2 := fun x y Q => match x, y with
  | .int i, .int j => Q (.val (.int (i + j)))
  | .str a, .str b => a.length + b.length ≤ sizeLine ∧ Q (.val (.str (a ++ b)))
  | _, _ => False
theorem s_iadd : OpS S (inplaceOp .Add) pIAdd := (s_iaddI.or s_iaddS).to (fun x y Q Q' i q => by
    unfold pIAdd at q ⊢
    split at q
    · exact i _ q
    · exact ⟨q.1, i _ q.2⟩
    · exact q.elim) fun x y Q q => by
    unfold pIAdd at q
    split at q
    · exact .inl ⟨_, _, rfl, rfl, trivial, q⟩
    · exact .inr ⟨_, _, rfl, rfl, q.1, q.2⟩
    · exact q.elim
end
/-! ### a list that changes in place -/
def plc (σ : PSt) (h : PH) : EV → Option (PO × (PO → PSt × PH))
  | .bor i => match σ[i]? with
    | some (some (.own o)) => some (o, fun o' => (σ.set i (some (.own o')), h))
    | some (some (.val (.ref a))) => match h a with
      | some o => some (o, fun o' => (σ, updP h a o'))
      | none => none
    | _ => none
  | .val (.ref a) => match h a with
    | some o => some (o, fun o' => (σ, updP h a o'))
    | none => none
  | _ => none
theorem plc_ok {K : PySem.W.Frag} {F : Ft} {H : Hp} {σp : PSt} {h : PH} {σ : L2.St} {e : EV} {v : V} {o : PO} {put : PO → PSt × PH} (s : Sm K H F σp h σ) (r : RE K F σ H e v) (q : plc σp h e = some (o, put)) :
    ∃ a, v = .ref a ∧ OR K H F a o ∧ ∀ o' u, OC K H F o' u → o'.fz = o.fz → Sm K (upd H a u) F (put o').1 (put o').2 σ ∧ Fr F H F (upd H a u) := by
  have hp : ∀ a, h a = some o → (∀ o', put o' = (σp, updP h a o')) → v = .ref a → ∃ a, v = .ref a ∧ OR K H F a o ∧ ∀ o' u, OC K H F o' u → o'.fz = o.fz → Sm K (upd H a u) F (put o').1 (put o').2 σ ∧ Fr F H F (upd H a u) := fun a e ep ev => by
    refine ⟨a, ev, (s.hp a o e).1, fun o' u c z => ?_⟩
    rw [ep]
    exact s.setHp e c
  cases e with
  | val p =>
    cases p with
    | ref a =>
      dsimp only [plc] at q
      cases eh : h a with
      | none => simp only [eh] at q; cases q
      | some o2 =>
        simp only [eh, Option.some.injEq, Prod.mk.injEq] at q
        obtain ⟨rfl, rfl⟩ := q
        cases r
        exact hp a eh (fun _ => rfl) rfl
    | _ => cases q
  | own o2 => cases q
  | bor i =>
    have r : σ[i]? = some (some v) := r
    dsimp only [plc] at q
    split at q
    · rename_i o2 e
      simp only [Option.some.injEq, Prod.mk.injEq] at q
      obtain ⟨rfl, rfl⟩ := q
      obtain ⟨a, ea, c, f, n, z, nz, nb⟩ := s.own i _ e
      rw [r] at ea; cases ea
      exact ⟨a, rfl, c, fun o' u c' z' => s.setIn e r c' (by rw [z']; exact z)⟩
    · rename_i a e
      obtain ⟨v', ev, rr⟩ := s.val i _ e
      rw [r] at ev; cases ev
      cases rr
      split at q
      · rename_i o2 eh
        simp only [Option.some.injEq, Prod.mk.injEq] at q
        obtain ⟨rfl, rfl⟩ := q
        exact hp a eh (fun _ => rfl) rfl
      · cases q
    · cases q
/-- a method of lists that may change them -/
structure LstM (S : Sc) (name : Str) (id : String) (g : List PV → List PV → (PV → List PV → Prop) → Prop) : Prop where
  slot : Slot "list" name id
  hty : typeOf (.builtin id) = pure (.type "method_descriptor")
  run : ∀ X, At S X → ∃ r, MtR X id r ∧ ∀ (F : Addr → Prop) (H : Hp) (l : Addr) (xs ps : List PV) (xv vs : List V) (Q : PV → List PV → Prop) (QV : VK), H l = some (.lst xv) → RpL X.K H F xs xv → RpL X.K H F ps vs → g xs ps Q →
    (∀ rp ys v yv, Q rp ys → Rp X.K H F rp v → RpL X.K H F ys yv → QV v (upd H l (.lst yv))) → r (.ref l) vs H QV
  mono : ∀ xs ps Q Q', (∀ r ys, Q r ys → Q' r ys) → g xs ps Q → g xs ps Q'
def wMut (g : List PV → List PV → (PV → List PV → Prop) → Prop) (T : WE) (U : WA) : WE := fun σ h Q E => T σ h (fun ea σ1 h1 => (∃ xs, vw σ1 h1 (pend ea) = .lst xs) ∧ U σ1 h1 (fun es σ2 h2 => shareL es σ2 h2 fun ps σ3 h3 => ∃ xs put, plc σ3 h3 (pend ea) = some (.lst xs, put) ∧ g xs ps fun r ys => Q (.val r) (put (.lst ys)).1 (put (.lst ys)).2) E) E
section
variable {S : Sc} {o e : Expr} {es : List Expr} {T : WE} {U : WA} {pos apos cpos : Pos} {name : Str} {id : String} {g : List PV → List PV → (PV → List PV → Prop) → Prop}
theorem wMut_mono (hm : LstM S name id g) (mt : Mono T) (mu : Mono U) : Mono (wMut g T U) := fun σ h Q Q' E E' i j q =>
  mt _ _ _ _ _ _ (fun ea σ1 h1 ⟨z, q⟩ => ⟨z, mu _ _ _ _ _ _ (fun es σ2 h2 q => shareL_mono (fun ps σ3 h3 ⟨xs, put, e, q⟩ => ⟨xs, put, e, hm.mono _ _ _ _ (fun r ys z => i _ _ _ z) q⟩) q) j q⟩) j q
theorem LE_mut (hm : LstM S name id g) (mt : Mono T) (mu : Mono U) {X : Cx} (A : At S X) {W : WX} {r : V → List V → Hp → VK → Prop} (hr : ∀ (F : Addr → Prop) (H : Hp) (l : Addr) (xs ps : List PV) (xv vs : List V) (Q : PV → List PV → Prop) (QV : VK), H l = some (.lst xv) → RpL X.K H F xs xv → RpL X.K H F ps vs → g xs ps Q →
    (∀ rp ys v yv, Q rp ys → Rp X.K H F rp v → RpL X.K H F ys yv → QV v (upd H l (.lst yv))) → r (.ref l) vs H QV) {σ : L2.St} {H : Hp} {Q : VK} (q : LE X.K X.mg (wMut g T U) W σ H Q) :
    LE X.K X.mg T W σ H fun x H1 => tyV X.K "list" x H1 ∧ LA X.K X.mg U W σ H1 fun vs H2 => r x vs H2 Q := by
  obtain ⟨F, σp, h, s, q⟩ := q
  refine ⟨F, σp, h, s, mt _ _ _ _ _ _ (fun ea σ1 h1 ⟨⟨xs, ex⟩, q1⟩ F1 H1 x f1 r1 => ?_) (fun _ _ _ z => z) q⟩
  have re := r1.re
  have s1 := r1.sm
  constructor
  · have rt := re.rt s1
    rw [ex] at rt
    obtain ⟨a, vs, rfl, q, _⟩ := rt.lst
    exact .inl ⟨rfl, _, .inl (.inl q)⟩
  · refine ⟨F1, σ1, h1, s1, mu _ _ _ _ _ _ (fun es σ2 h2 q2 F2 H2 vs f2 s2 rl => ?_) (fun _ _ _ z => z.step f1) q1⟩
    obtain ⟨F3, ps, σ3, h3, s3, rp, ⟨ys, put, ep, gq⟩, f3⟩ := shareL_ok s2 rl q2
    obtain ⟨a, rfl, ⟨u, eu, c⟩, hput⟩ := plc_ok s3 ((re.keep f2.keep).keep f3.keep) ep
    obtain ⟨xv, rfl, rx⟩ := c
    refine hr F3 H2 a ys ps xv vs _ Q eu rx rp gq fun rp' zs v yv qq r1 r2 => ?_
    obtain ⟨s4, f4⟩ := hput (.lst zs) (.lst yv) ⟨yv, rfl, r2⟩ rfl
    exact qq F3 _ v (((f1.trans f2).trans f3).trans f4) (rsv s4 (r1.keep f4.keep))
theorem je_mut (hm : LstM S name id g) (ho : JE S o T) (ha : JA S (e :: es) U)
    (hbase : ∀ env, attributeBase o name env (eval o env) = eval o env := by intro _; rfl)
    (hfew : ∀ env, ((backTo cpos (starEach (e :: es) env)).all (fun x => !x.1) && (backToKw cpos (keywordEach [] env)).all (fun x => x.1.isSome)
      && decide ((e :: es).length + ([] : List Keyword).length + (if ([] : List Keyword).isEmpty then 0 else 1) < 30)) = true := by intro _; rfl)
    (hline : (apos.endLine == cpos.line) = true := by rfl) (hs : ∀ env, starEach (e :: es) env = (false, eval e env) :: starEach es env := by intro _; rfl) (hplain : ∀ env, (backTo cpos (starEach es env)).any (·.1) = false := by intro _; rfl) :
    JE S (.Call (.Attribute o name apos) (e :: es) [] cpos) (wMut g T U) where
  mono := wMut_mono hm ho.mono ha.mono
  run := fun X W A tk => by
    obtain ⟨r, mr, hr⟩ := hm.run X A
    exact pe_weak (pe_bm PySem.F.plainAttrs_list hm.slot hm.hty mr (ho.run X W A tk) (ha.run X W A tk) (hbase _) (hfew _) hline (hs _) (hplain _)) fun σ H Q q => LE_mut hm ho.mono ha.mono A hr q
theorem je_mut0 (hm : LstM S name id g) (ho : JE S o T)
    (hbase : ∀ env, attributeBase o name env (eval o env) = eval o env := by intro _; rfl) (hline : (apos.endLine == cpos.line) = true := by rfl) :
    JE S (.Call (.Attribute o name apos) [] [] cpos) (wMut g T wNil) where
  mono := wMut_mono hm ho.mono (ja_nil (S := S)).mono
  run := fun X W A tk => by
    obtain ⟨r, mr, hr⟩ := hm.run X A
    refine pe_weak (pe_bm0 PySem.F.plainAttrs_list hm.slot hm.hty mr (ho.run X W A tk) (hbase _) hline) fun σ H Q q => ?_
    obtain ⟨F, σp, h, s, q⟩ := LE_mut (U := wNil) hm ho.mono (ja_nil (S := S)).mono A hr q
    refine ⟨F, σp, h, s, ho.mono _ _ _ _ _ _ (fun ea σ1 h1 q F' H' v f r => ?_) (fun _ _ _ z => z) q⟩
    obtain ⟨ty, F2, σ2, h2, s2, q2⟩ := q F' H' v f r
    exact ⟨ty, q2 F2 H' [] .refl s2 .nil⟩
def gAppend : List PV → List PV → (PV → List PV → Prop) → Prop := fun xs ps Q => ∃ y, ps = [y] ∧ xs.length < sizeLine ∧ Q .non (xs ++ [y])
theorem lm_append : LstM S "append" "list.append" gAppend where
  slot := PySem.F.slot_list_append
  hty := PySem.F.type_list_append
  mono := fun xs ps Q Q' i ⟨y, a, b, q⟩ => ⟨y, a, b, i _ _ q⟩
  run := fun X A => ⟨_, mt_append, fun F H l xs ps xv vs Q QV e rx rp ⟨y, e1, hl, q⟩ k => by
    subst e1
    cases rp with
    | cons ry rn =>
      cases rn
      exact ⟨l, xv, _, rfl, rfl, e, by rw [← rx.length]; exact hl, k _ _ _ _ q .non (rx.append (.cons ry .nil))⟩⟩
def gPop : List PV → List PV → (PV → List PV → Prop) → Prop := fun xs ps Q => ps = [] ∧ ∃ y, xs[xs.length - 1]? = some y ∧ Q y xs.dropLast
theorem RpL.dropLast {K : PySem.W.Frag} {H : Hp} {F : Addr → Prop} {ps : List PV} {vs : List V} (r : RpL K H F ps vs) : RpL K H F ps.dropLast vs.dropLast := by
  rw [List.dropLast_eq_take, List.dropLast_eq_take, ← r.length]
  exact r.take _
theorem lm_pop : LstM S "pop" "list.pop" gPop where
  slot := PySem.F.slot_list_pop
  hty := PySem.F.type_list_pop
  mono := fun xs ps Q Q' i ⟨a, y, b, q⟩ => ⟨a, y, b, i _ _ q⟩
  run := fun X A => ⟨_, mt_pop, fun F H l xs ps xv vs Q QV e rx rp ⟨e1, y, ey, q⟩ k => by
    subst e1
    cases rp
    obtain ⟨v, ev, rv⟩ := rx.get ey
    exact ⟨l, xv, v, rfl, rfl, e, by rw [← rx.length]; exact ev, k _ _ _ _ q rv rx.dropLast⟩⟩
/-! ### o[i] = value -/
def gS (To Ti : WE) : WG := fun p σ h Q => To σ h (fun eo σ1 h1 => Ti σ1 h1 (fun ei σ2 h2 => ∃ k xs put j, vw σ2 h2 ei = .int k ∧ plc σ2 h2 (pend eo) = some (.lst xs, put) ∧ ixN xs.length k = some j ∧ Q (put (.lst (xs.set j p))).1 (put (.lst (xs.set j p))).2) fun _ _ _ => False) fun _ _ _ => False
theorem jg_s {i : Expr} {To Ti : WE} (ho : JE S o To) (hi : JE S i Ti) (ha : ∀ env v, assign (.Subscript o i pos) env v = (do
      let ov ← holding [v] (eval o env)
      let iv ← holding [v, ov] (eval i env)
      standAt pos
      holding [v, ov, iv] (setItem ov iv v)
      release [v, ov, iv] []) := by intro _ _; rfl) : JG S (.Subscript o i pos) [] (gS To Ti) where
  mono := fun p σ h Q Q' m q => ho.mono _ _ _ _ _ _ (fun eo σ1 h1 q => hi.mono _ _ _ _ _ _ (fun ei σ2 h2 ⟨k, xs, put, j, a, b, c, q⟩ => ⟨k, xs, put, j, a, b, c, m _ _ q⟩) (fun _ _ _ z => z) q) (fun _ _ _ z => z) q
  run := fun X A => by
    refine pg_weak (pg_sub (ho.run X _ A takes0) (hi.run X _ A takes0) set_list (ha _)) fun v σ H Q q => ?_
    obtain ⟨F, σp, h, p, s, rp, q⟩ := q
    refine LE.two (X := X) (E := fun _ _ _ => False) (W := fun _ _ _ _ => False) (R := fun o i H2 => rSetL o i v H2 fun H3 => Q σ H3) (G := fun eo ei σ2 h2 => ∃ k xs put j, vw σ2 h2 ei = .int k ∧ plc σ2 h2 eo = some (.lst xs, put) ∧ ixN xs.length k = some j ∧ CG X.K [] F σ H Q (put (.lst (xs.set j p))).1 (put (.lst (xs.set j p))).2) ho.mono hi.mono s q (fun _ _ _ z => z.elim) fun eo ei σ2 h2 F2 H2 x y f rx ry ⟨k, xs, put, j, ek, ep, ej, q⟩ => ?_
    have rt := ry.rt
    rw [ek] at rt
    obtain ⟨a, rfl, ⟨u, eu, c⟩, hput⟩ := plc_ok ry.sm rx ep
    obtain ⟨xv, rfl, rxs⟩ := c
    obtain ⟨s4, f4⟩ := hput (.lst (xs.set j p)) (.lst (xv.set j v)) ⟨_, rfl, rxs.set (rp.keep f.keep) j⟩ rfl
    exact ⟨a, xv, k, j, rfl, rt.int, eu, by rw [← rxs.length]; exact ej, q F2 _ σ (f.trans f4) s4 (fun _ _ => rfl) rfl⟩
end
end PP
set_option Elab.async false
set_option linter.all false
set_option maxRecDepth 100000
set_option maxHeartbeats 4000000
namespace PP
open PySem PySem.Spec PyProof.Rows L2

/-! ### raise C(e, ..), C without an own __init__ -/
abbrev bmVE : List Value := [.type "ValueError", .type "Exception", .type "BaseException", .type "object"]
structure XC (K : PySem.W.Frag) (mg : Str → Option Value) (x : Str) : Prop where
  ex : ∃ C, mg x = some (.ref C) ∧ PySem.W.excIn K C bmVE "ValueError.__new__" = true ∧ PySem.W.keepIn K (.ref C) = true ∧ PySem.W.subIn K (.ref C) (.type "BaseException") = some true ∧ PySem.W.typeIn K (.ref C) = some (.type "type")
def sRaise (x : PX) (U : WA) : WS := fun D σ h => U σ h (fun es σ1 h1 => es.length ≤ 1000 ∧ D.ex x σ1 h1) D.ex
section
variable {S : Sc} {e : Expr} {es : List Expr} {U : WA} {pos p cpos : Pos} {x : Str}
theorem js_raise (xc : XC S.K S.mg x) (ha : JA S (e :: es) U) (hc : S.calm = true := by rfl) (hg : S.sc.names.lookup x = some .globalImplicit := by rfl) (hdb : (x == ("__debug__" : Str)) = false := by decide)
    (he : ∀ env, starEach (e :: es) env = (false, eval e env) :: starEach es env := by intro _; rfl) (hpl : ∀ env, (backTo cpos (starEach es env)).any (·.1) = false := by intro _; rfl) :
    JS S (.Raise (some (.Call (.Name x p) (e :: es) [] cpos)) none pos) (sRaise ⟨x, []⟩ U) where
  mono := fun D D' σ h l q => ha.mono _ _ _ _ _ _ (fun _ _ _ q => ⟨q.1, l.ex _ _ _ q.2⟩) l.ex q
  run := fun X W A tk hp => by
    obtain ⟨C, g, q1, q2, q3, q4⟩ := xc.ex
    have k := A.K
    refine ps_weak (ps_raise (A.calm hc) tk (pmk_ownA (X := X) PySem.F.excBase_ValueError (C := C) (by rw [k]; exact q1) (by rw [A.mg]; exact g) (by rw [k]; exact q2) (raises_own (by rw [k]; exact q3) (by rw [k]; exact q4)) (gl_of A hg) (ha.run X W A tk) hdb (he _) (hpl _))) fun D σ H q => ?_
    obtain ⟨F, σp, h, s, q⟩ := q
    refine ⟨F, σp, h, s, ha.mono _ _ _ _ _ _ (fun es σ1 h1 ⟨hl, q1⟩ F1 H1 vs f1 s1 rl => ⟨?_, ?_⟩) (fun _ _ _ z => ex_of z) q⟩
    · rw [← rl.len]; exact Nat.le_of_lt (small1000 hl)
    · exact q1 F1 H1 σ _ _ f1 s1 ⟨C, by rw [A.mg]; exact g, rfl, .inl ⟨rfl, rfl⟩⟩
end
/-! ### a def of the text -/
def startP (N : List Str) (ps : List PV) : PSt := ps.map (fun p => some (SV.val p)) ++ List.replicate (N.length - ps.length) none
def pdF (Q : EV → PH → Prop) (E : PX → PH → Prop) : PD where
  nx := fun _ h => Q (.val .non) h
  rt := fun e _ h => Q e h
  bk := fun _ _ => False
  ct := fun _ _ => False
  ex := fun x _ h => E x h
/-- the frame of a def's body -/
def Sc.fn0 (P : Program) (w : World) (K : PySem.W.Frag) (mg : Str → Option Value) (base : Heap) (N : List Str) (st : Stmt) (k : Nat) : Sc := ⟨P, w, K, mg, base, N, defScope st, fun _ => true, k, true, true⟩
theorem At.cxOf {CX : CXT} {P : Program} {w : World} {K : PySem.W.Frag} {mg : Str → Option Value} {base : Heap} {N ps : List Str} {st : Stmt} {k : Nat} {qual : Str} {f : Addr} {cd : Value} {A : Around} {outer : List Env} {s : Shared} {H : Hp} {E : XK} (fs : FnScope N ps (defScope st))
    (hr : Room k (A.deeper (envOfC qual (defScope st) s.heap.objs.size f cd))) : At (.fn0 P w K mg base N st k) (L2.cxOf CX P w K mg base N qual (defScope st) f cd A outer s H E) where
  P := rfl
  w := rfl
  K := rfl
  mg := rfl
  base := rfl
  N := rfl
  sc := rfl
  nd := fs.nd
  fn := fun _ _ => rfl
  calm := fun _ => rfl
  room := fun _ => hr
  units := by have := hr.un; show (A.deeper _).units + 70 < cLine; omega
  top := fun _ => ⟨rfl, rfl⟩
section
variable {K : PySem.W.Frag} {mg : Str → Option Value} {H : Hp} {h : PH}
def entryF (h : PH) (H : Hp) : Ft := ⟨dom h, fun _ => False, fun a => (H a).isSome = true⟩
theorem RpL.mapVal {F : Addr → Prop} : ∀ {ps : List PV} {vs : List V}, RpL K H F ps vs → ∀ (i : Nat) (p : PV), ps[i]? = some p → ∃ v, vs[i]? = some v ∧ Rp K H F p v := fun r i p e => r.get e
theorem Sm.start {N : List Str} {ps : List PV} {vs : List V} (hs : HS K h H) (r : RpL K H (dom h) ps vs) : Sm K H (entryF h H) (startP N ps) h (L2.start N vs) where
  val := fun i p e => by
    have lt : i < ps.length := by
      by_cases lt : i < ps.length
      · exact lt
      · have e2 : (startP N ps)[i]? = (List.replicate (N.length - ps.length) (none : Option SV))[i - ps.length]? := by
          unfold startP
          rw [List.getElem?_append_right (by simp; omega), List.length_map]
        rw [e2, List.getElem?_replicate] at e
        split at e <;> cases e
    have e2 : (startP N ps)[i]? = some (some (SV.val ps[i])) := by
      unfold startP
      rw [List.getElem?_append_left (by simpa using lt), List.getElem?_map, List.getElem?_eq_getElem lt]
      rfl
    rw [e2] at e
    cases e
    obtain ⟨v, ev, rv⟩ := r.get (List.getElem?_eq_getElem lt)
    refine ⟨v, ?_, rv⟩
    have lt2 : i < vs.length := by rw [← r.length]; exact lt
    unfold L2.start
    rw [List.getElem?_append_left (by simpa using lt2), List.getElem?_map, ev]
    rfl
  own := fun i o e => by
    have e2 : (startP N ps)[i]? = some (some (SV.own o)) := e
    unfold startP at e2
    by_cases lt : i < ps.length
    · rw [List.getElem?_append_left (by simpa using lt), List.getElem?_map, List.getElem?_eq_getElem lt] at e2
      cases e2
    · rw [List.getElem?_append_right (by simp; omega), List.getElem?_replicate] at e2
      split at e2 <;> cases e2
  sep := fun i j o o' a e => by
    have e2 : (startP N ps)[i]? = some (some (SV.own o)) := e
    unfold startP at e2
    by_cases lt : i < ps.length
    · rw [List.getElem?_append_left (by simpa using lt), List.getElem?_map, List.getElem?_eq_getElem lt] at e2
      cases e2
    · rw [List.getElem?_append_right (by simp; omega), List.getElem?_replicate] at e2
      split at e2 <;> cases e2
  hp := fun a o e => ⟨hs a o e, by show (h a).isSome = true; rw [e]; rfl, fun z => z⟩
  len := by
    unfold startP L2.start
    simp only [List.length_append, List.length_map, List.length_replicate, r.length]
  fin := fun a e => by
    have e : (h a).isSome = true := e
    obtain ⟨o, e⟩ := Option.isSome_iff_exists.mp e
    obtain ⟨u, eu, _⟩ := hs a o e
    exact ⟨u, eu⟩
  zf := fun a z => z.elim
  bt := fun a z => Option.isSome_iff_exists.mp z
theorem end_hs {F' : Ft} {H' : Hp} {σp : PSt} {h' : PH} {σ : L2.St} (s : Sm K H' F' σp h' σ) : HS K h' H' ∧ Keep F' H' (dom h') H' := by
  have k : Keep F' H' (dom h') H' := fun a u e n => ⟨e, fun z => n (by
    have z : (h' a).isSome = true := z
    obtain ⟨o, z⟩ := Option.isSome_iff_exists.mp z
    exact (s.hp a o z).2.1)⟩
  exact ⟨fun a o e => (s.hp a o e).1.keep k fun _ z => z, k⟩
theorem end_fr {F' : Ft} {H' : Hp} {σp : PSt} {h' : PH} {σ : L2.St} (f : Fr (entryF h H) H F' H') (s : ∀ a o, h' a = some o → F' a) : Fr (domF h) H (domF h') H' where
  zz := rfl
  bb := rfl
  st := fun a o e n => f.st a o e (n.imp_right fun z => z.elim)
  nw := fun a z => by
    have z : (h' a).isSome = true := z
    obtain ⟨o, z⟩ := Option.isSome_iff_exists.mp z
    exact f.nw a (s a o z)
  dm := f.dm
end
/-- a def keeps its plain promise -/
theorem fnOk_of {P : Program} {w : World} {K : PySem.W.Frag} {mg : Str → Option Value} {base : Heap} {x qual : Str} {st : Stmt} {f : Addr} {fd : FuncData} {N ps : List Str} {k n : Nat} {sp : PSp} {T : WS} (F : Fun K x qual st f fd) (fs : FnScope N ps (defScope st)) (hn : ps.length = n)
    (hb : JSs (.fn0 P w K mg base N st k) (defBody st) T) (hsp : ∀ qs h Q E, sp qs h Q E → T (pdF Q E) (startP N qs) h) : FnOk P w K mg base (L2.CX P w) (k + 1) f fd ps (LF K mg n sp) := by
  refine F.okX fs (fun vs H Q E h => by rw [h.1, hn]) fun cdv A outer s H vs Q E hr h => ?_
  obtain ⟨hl, qs, hh, hs, rp, q⟩ := h
  have tk : Takes (cxOf (L2.CX P w) P w K mg base N qual (defScope st) f cdv A outer s H E) (fun cls d _ H => E cls d H) := takes_of rfl rfl rfl rfl
  refine ⟨_, hb.run _ _ (At.cxOf fs hr) tk ?_, ?_⟩
  · exact L2.passes_of rfl
  · refine ⟨entryF hh H, startP N qs, hh, .start hs rp, hb.mono _ _ _ _ ?_ (hsp _ _ _ _ q)⟩
    refine ⟨fun σ h' q F' H' σ' f' s' => ?_, fun e σ h' q F' H' σ' v f' r' => ?_, fun _ _ z => z.elim, fun _ _ z => z.elim, fun px σ h' q F' H' σ' cls d f' s' xr => ?_⟩
    · obtain ⟨e1, e2⟩ := end_hs s'
      exact q H' .non (end_fr (σp := σ) (σ := σ') f' fun a o z => (s'.hp a o z).2.1) ⟨e1, .non⟩
    · cases e with
      | val p =>
        obtain ⟨s', r'⟩ := r'
        obtain ⟨e1, e2⟩ := end_hs s'
        exact q H' v (end_fr (σp := σ) (σ := σ') f' fun a o z => (s'.hp a o z).2.1) ⟨e1, r'.keep e2⟩
      | bor i => exact r'.elim
      | own o =>
        obtain ⟨a, u, rfl, nf, eu, c, s', z, nb⟩ := r'
        obtain ⟨e1, e2⟩ := end_hs s'
        refine q H' _ (end_fr (σp := σ) (σ := σ') f' fun a o z => (s'.hp a o z).2.1) ⟨a, u, rfl, ?_, eu, c.keep e2, e1, z, ?_⟩
        · cases e : h' a with
          | none => rfl
          | some o => exact absurd (s'.hp a o e).2.1 nf
        · cases e : H a with
          | none => rfl
          | some u =>
            refine absurd ?_ nb
            rw [f'.bb]
            show (H a).isSome = true
            rw [e] <;> rfl
    · obtain ⟨e1, e2⟩ := end_hs s'
      exact q H' cls d (end_fr (σp := σ) (σ := σ') f' fun a o z => (s'.hp a o z).2.1) e1 xr
end PP
set_option Elab.async false
set_option linter.all false
set_option maxRecDepth 100000
set_option maxHeartbeats 4000000
namespace PP
open PySem PySem.Spec PyProof.Rows L2

/-! ### an except suite: the context, the exception at hand -/
def Sc.sui (S : Sc) : Sc := { S with calm := false }
theorem At.sui {S : Sc} {X : Cx} (A : At S X) (a : Addr) (pn : List (Addr × Obj)) : At S.sui (X.suite a pn) where
  P := A.P
  w := A.w
  K := A.K
  mg := A.mg
  base := A.base
  N := A.N
  sc := A.sc
  nd := A.nd
  fn := A.fn
  calm := fun z => by cases z
  room := fun z => by cases z
  units := A.units
  top := A.top
theorem At.tr {S : Sc} {X : Cx} (A : At S X) (pn : List (Addr × Obj)) (xe : Value → Shared → Prop) : At S (X.tr pn xe) where
  P := A.P
  w := A.w
  K := A.K
  mg := A.mg
  base := A.base
  N := A.N
  sc := A.sc
  nd := A.nd
  fn := A.fn
  calm := A.calm
  room := A.room
  units := A.units
  top := A.top
structure AtX (S : Sc) (X : Cx) (cls : Value) (d : Option Addr) (a : Addr) : Prop where
  at' : At S.sui X
  ex : ∃ (Y : Cx) (oe : Obj) (pn : List (Addr × Obj)), X = Y.suite a ((a, oe) :: pn) ∧ Zc cls d oe ∧ ∃ vs, oe.data = .fields vs
def noW : WX := fun _ _ _ _ => False
structure XA (K : PySem.W.Frag) (mg : Str → Option Value) (x : PX) (cls : Value) (d : Option Addr) (a : Addr) (i : Nat) (σ : L2.St) (H : Hp) : Prop where
  xr : XR K mg x cls d H
  sl : σ[i]? = some (some (.ref a))
def LEX (K : PySem.W.Frag) (mg : Str → Option Value) (x : PX) (cls : Value) (d : Option Addr) (a : Addr) (i : Nat) (T : WE) : TE := fun σ H Q => ∃ F σp h, Sm K H F σp h σ ∧ XA K mg x cls d a i σ H ∧ T σp h (CQ K F σ H Q) (CE' K mg F σ H noW)
def LTX (K : PySem.W.Frag) (mg : Str → Option Value) (x : PX) (cls : Value) (d : Option Addr) (a : Addr) (i : Nat) (T : WT) : TT := fun σ H Q => ∃ F σp h, Sm K H F σp h σ ∧ XA K mg x cls d a i σ H ∧ T σp h (CT K F σ H Q) (CE' K mg F σ H noW)
def LSX (K : PySem.W.Frag) (mg : Str → Option Value) (x : PX) (cls : Value) (d : Option Addr) (a : Addr) (i : Nat) (T : WS) : TS := fun D σ H => ∃ F σp h, Sm K H F σp h σ ∧ XA K mg x cls d a i σ H ∧ T (pd K mg F H D noW) σp h
structure JEX (S : Sc) (x : PX) (i : Nat) (e : Expr) (T : WE) : Prop where
  run : ∀ X cls d a, AtX S X cls d a → PE X e (LEX X.K X.mg x cls d a i T)
  mono : Mono T
structure JTX (S : Sc) (x : PX) (i : Nat) (e : Expr) (T : WT) : Prop where
  run : ∀ X cls d a, AtX S X cls d a → PT X e (LTX X.K X.mg x cls d a i T)
  mono : Mono T
structure JSX (S : Sc) (x : PX) (i : Nat) (st : List Stmt) (T : WS) : Prop where
  run : ∀ X cls d a, AtX S X cls d a → PSs X st (LSX X.K X.mg x cls d a i T)
  mono : MonoS T
/-- a test that changes nothing -/
structure JTP (S : Sc) (x : PX) (i : Nat) (e : Expr) (B : Bool → Prop) : Prop where
  run : ∀ X cls d a, AtX S X cls d a → PT X e (fun σ H Q => XA X.K X.mg x cls d a i σ H ∧ ∃ b, B b ∧ Q b H)
/-! isinstance(e, c) -/
/-- what a caught error of class x.cls says of isinstance -/
structure XI (K : PySem.W.Frag) (mg : Str → Option Value) (x : Str) (cv : Value) (b : Bool) : Prop where
  ex : ∃ D, mg x = some (.ref D) ∧ ExcC K D ∧ PySem.W.kitOne K (.ref D) cv = some b
def rIsX (K : PySem.W.Frag) (cls : Value) (d : Option Addr) (a : Addr) : List V → Hp → VK → Prop := fun xs H Q => ∃ (D : Addr) (c : V) (cv : Value) (b : Bool), cls = .ref D ∧ ExcC K D ∧ (d = none ∨ ∃ dd us, d = some dd ∧ H dd = some (.xd us)) ∧ xs = [.ref a, c] ∧ (∀ u, RelV c u → u = cv) ∧ PySem.W.kitOne K (.ref D) cv = some b ∧ Q (.bl b) H
theorem call_isX {X : Cx} {a : Addr} {cls : Value} {d : Option Addr} {oe : Obj} {pn : List (Addr × Obj)} (hz : Zc cls d oe) (hf : ∃ vs, oe.data = .fields vs) : CallR (X.suite a ((a, oe) :: pn)) (.builtin "isinstance") (rIsX X.K cls d a) := by
  intro pins s σ H xs us Q I r h
  obtain ⟨D, c, cv, b, rfl, C, hd, rfl, hcv, e, q⟩ := h
  cases r with
  | cons rx rr =>
    cases rr with
    | cons rt rr =>
      cases rr
      cases rx
      have ec := hcv _ rt
      subst ec
      obtain ⟨hget, _⟩ := I.pin (a, oe) (List.mem_append.mpr (.inl List.mem_cons_self))
      obtain ⟨vs, hv⟩ := hf
      have J : ∃ od, PySem.W.InstAt s.heap a oe D od := by
        have no : PySem.W.notCls oe = true := by unfold PySem.W.notCls; rw [hv] <;> rfl
        rcases hd with rfl | ⟨dd, us, rfl, eu⟩
        · exact ⟨none, hget, hz.1, no, by rw [hz.2]; trivial⟩
        · have hx : ObjOk X.prog X.w H s.heap dd (.xd us) := I.hok dd _ eu
          obtain ⟨mA, hns, hr⟩ := hx
          obtain ⟨od, ho, hl⟩ := lookIn_ns hns
          exact ⟨some od, hget, hz.1, no, by rw [hz.2]; exact ho⟩
      obtain ⟨od, J⟩ := J
      have hcl : (PySem.W.clsIn X.K D).isSome = true := by
        have := C.hd
        unfold PySem.W.hasDictIn at this
        cases e : PySem.W.clsIn X.K D with
        | some cd => rfl
        | none => rw [e] at this; cases this
      exact PySem.W.kia_one (PySem.W.kitx_exc hcl C.hg C.hk C.hs C.ha C.hn C.ht C.hm) I.kIn J e (fun z => nomatch z) fun tk => ⟨.bl b, H, I.kept (t' := tk) fun _ _ z => z, rfl, q⟩
/-- a class's name as a value -/
inductive NameV (mg : Str → Option Value) (c : Str) : V → Value → Prop
  | own {C : Addr} : mg c = some (.ref C) → NameV mg c (.ref C) (.ref C)
  | blt {n : String} : mg c = none → bootBuiltins c = some (.type n) → c ≠ "__name__" → NameV mg c (.ty n) (.type n)
section
variable {S : Sc} {x : PX} {i : Nat} {y c : Str} {p0 p1 p2 cpos pos : Pos} {v : V} {cv : Value}
theorem pe_cls {X : Cx} (A : At S X) (h : NameV S.mg c v cv) (hg : S.sc.names.lookup c = some .globalImplicit) (hd : (c == ("__debug__" : Str)) = false) : PE X (.Name c p2) (tC v) := by
  cases h with
  | own m => exact pe_glob (gl_of A hg) (by rw [A.mg]; exact m) rfl hd
  | blt m b n => exact pe_bltn (gl_of A hg) (by rw [A.mg]; exact m) b rfl n hd
theorem NameV.rel (h : NameV S.mg c v cv) : ∀ u, RelV v u → u = cv := by
  cases h with
  | own m => exact fun u r => r
  | blt m b n => exact fun u r => r
theorem pe_isX {X : Cx} {cls : Value} {d : Option Addr} {a : Addr} (A : AtX S X cls d a) (nv : NameV S.mg c v cv) (hm : S.mg "isinstance" = none) (hN : S.N[i]? = some y) (hy : S.sc.names.lookup y = some .local) (hi : S.sc.names.lookup ("isinstance" : Str) = some .globalImplicit) (hc : S.sc.names.lookup c = some .globalImplicit)
    (hd1 : (y == ("__debug__" : Str)) = false) (hd2 : (y == ("__classdict__" : Str)) = false) (hd3 : (c == ("__debug__" : Str)) = false)
    (he : ∀ env, starEach [.Name y p1, .Name c p2] env = (false, eval (.Name y p1) env) :: starEach [.Name c p2] env) (he2 : ∀ env, starEach [.Name c p2] env = (false, eval (.Name c p2) env) :: starEach [] env) (hpl : ∀ env, (backTo cpos (starEach [.Name c p2] env)).any (·.1) = false) :
    PE X (.Call (.Name "isinstance" p0) [.Name y p1, .Name c p2] [] cpos) (fun σ H Q => XA X.K X.mg x cls d a i σ H ∧ ∃ b, XI S.K S.mg x.cls cv b ∧ Q (.bl b) H) := by
  obtain ⟨A0, Y, oe, pn, rfl, hz, hf⟩ := A
  have call := call_isX (X := Y) (a := a) (pn := pn) hz hf
  refine pe_weak (pe_callB call (gl_of A0 hi) (by rw [A0.mg]; exact hm) (by rfl) (pa_cons (pe_var (i := i) (by rw [A0.N]; exact hN) (vis_of A0 (Or.inl hy)) hd1 hd2) (pa_cons (pe_cls A0 nv hc hd3) pa_nil (he2 _)) (he _)) (by decide) (by decide) (he _) (hpl _)) fun σ H Q q => ?_
  obtain ⟨xa, b, ⟨D, m, C, kt⟩, q⟩ := q
  obtain ⟨C2, m2, e2, dd⟩ := xa.xr
  have k : Y.K = S.K := A0.K
  have m2' : S.mg x.cls = some (.ref C2) := (congrFun A0.mg x.cls).symm.trans m2
  rw [m] at m2'
  cases m2'
  refine ⟨.ref a, xa.sl, D, v, cv, b, e2, by rw [k]; exact C, ?_, rfl, nv.rel, by rw [k]; exact kt, q⟩
  rcases dd with ⟨_, z⟩ | ⟨d', us, z, w, _⟩
  · exact .inl z
  · exact .inr ⟨d', us, z, w⟩
/-- as a test, as a value -/
theorem jtp_isi (nv : NameV S.mg c v cv) (hm : S.mg "isinstance" = none) (hN : S.N[i]? = some y := by rfl) (hy : S.sc.names.lookup y = some .local := by rfl) (hi : S.sc.names.lookup ("isinstance" : Str) = some .globalImplicit := by rfl) (hc : S.sc.names.lookup c = some .globalImplicit := by rfl)
    (hd1 : (y == ("__debug__" : Str)) = false := by decide) (hd2 : (y == ("__classdict__" : Str)) = false := by decide) (hd3 : (c == ("__debug__" : Str)) = false := by decide)
    (he : ∀ env, starEach [.Name y p1, .Name c p2] env = (false, eval (.Name y p1) env) :: starEach [.Name c p2] env := by intro _; rfl) (he2 : ∀ env, starEach [.Name c p2] env = (false, eval (.Name c p2) env) :: starEach [] env := by intro _; rfl) (hpl : ∀ env, (backTo cpos (starEach [.Name c p2] env)).any (·.1) = false := by intro _; rfl)
    (ht : ∀ env whole, isTrue (.Call (.Name "isinstance" p0) [.Name y p1, .Name c p2] [] cpos) env whole = (do let v ← whole; standAt (Expr.Call (.Name "isinstance" p0) [.Name y p1, .Name c p2] [] cpos).pos; holding [v] (truthy v)) := by intro _ _; rfl) :
    JTP S x i (.Call (.Name "isinstance" p0) [.Name y p1, .Name c p2] [] cpos) (XI S.K S.mg x.cls cv) where
  run := fun X cls d a A => pt_weak (pt_truth (pe_isX A nv hm hN hy hi hc hd1 hd2 hd3 he he2 hpl) (ht X.env)) fun σ H Q ⟨xa, b, xi, q⟩ => ⟨xa, b, xi, b, rfl, q⟩
def wXI (K : PySem.W.Frag) (mg : Str → Option Value) (x : PX) (cv : Value) : WE := fun σ h Q _ => ∃ b, XI K mg x.cls cv b ∧ Q (.val (.bl b)) σ h
theorem jex_isi (nv : NameV S.mg c v cv) (hm : S.mg "isinstance" = none) (hN : S.N[i]? = some y := by rfl) (hy : S.sc.names.lookup y = some .local := by rfl) (hi : S.sc.names.lookup ("isinstance" : Str) = some .globalImplicit := by rfl) (hc : S.sc.names.lookup c = some .globalImplicit := by rfl)
    (hd1 : (y == ("__debug__" : Str)) = false := by decide) (hd2 : (y == ("__classdict__" : Str)) = false := by decide) (hd3 : (c == ("__debug__" : Str)) = false := by decide)
    (he : ∀ env, starEach [.Name y p1, .Name c p2] env = (false, eval (.Name y p1) env) :: starEach [.Name c p2] env := by intro _; rfl) (he2 : ∀ env, starEach [.Name c p2] env = (false, eval (.Name c p2) env) :: starEach [] env := by intro _; rfl) (hpl : ∀ env, (backTo cpos (starEach [.Name c p2] env)).any (·.1) = false := by intro _; rfl) :
    JEX S x i (.Call (.Name "isinstance" p0) [.Name y p1, .Name c p2] [] cpos) (wXI S.K S.mg x cv) where
  mono := fun σ h Q Q' E E' i j ⟨b, xi, q⟩ => ⟨b, xi, i _ _ _ q⟩
  run := fun X cls d a A => pe_weak (pe_isX A nv hm hN hy hi hc hd1 hd2 hd3 he he2 hpl) fun σ H Q ⟨F, σp, h, s, xa, b, xi, q⟩ => ⟨xa, b, xi, q F H _ .refl (rsv s (.bl b))⟩
theorem jtp_not {e : Expr} {B : Bool → Prop} (h : JTP S x i e B) : JTP S x i (.UnaryOp .Not e pos) (fun b => B (!b)) where
  run := fun X cls d a A => pt_weak (pt_not (h.run X cls d a A)) fun σ H Q ⟨xa, b, xi, q⟩ => ⟨xa, !b, xi, by show Q (!(!b)) H; rw [Bool.not_not]; exact q⟩
theorem jex_lift {e : Expr} {T : WE} (h : JE S.sui e T) : JEX S x i e T where
  mono := h.mono
  run := fun X cls d a A => pe_weak (h.run X noW A.at' takes0) fun σ H Q ⟨F, σp, h', s, xa, q⟩ => ⟨F, σp, h', s, q⟩
def wIfP (B : Bool → Prop) (T U : WE) : WE := fun σ h Q E => ∃ b, B b ∧ if b = true then T σ h Q E else U σ h Q E
theorem jex_if {t e1 e2 : Expr} {B : Bool → Prop} {T U : WE} (h : JTP S x i t B) (h1 : JEX S x i e1 T) (h2 : JEX S x i e2 U) : JEX S x i (.IfExp t e1 e2 pos) (wIfP B T U) where
  mono := fun σ h Q Q' E E' k j ⟨b, xi, q⟩ => ⟨b, xi, by
    cases b with
    | true => exact h1.mono _ _ _ _ _ _ k j q
    | false => exact h2.mono _ _ _ _ _ _ k j q⟩
  run := fun X cls d a A => pe_weak (pe_ifExp (h.run X cls d a A) (h1.run X cls d a A) (h2.run X cls d a A)) fun σ H Q ⟨F, σp, h', s, xa, b, xi, q⟩ => by
    refine ⟨xa, b, xi, ?_⟩
    cases b with
    | true => exact ⟨F, σp, h', s, xa, q⟩
    | false => exact ⟨F, σp, h', s, xa, q⟩
/-- e.f -/
structure XF (K : PySem.W.Frag) (mg : Str → Option Value) (x : Str) (f : Str) : Prop where
  ex : ∃ C, mg x = some (.ref C) ∧ XfC K C ∧ PySem.W.findIn K (.ref C) f = some none
def wXF (K : PySem.W.Frag) (mg : Str → Option Value) (x : PX) (f : Str) : WE := fun σ h Q _ => XF K mg x.cls f ∧ ∃ p, x.fs.lookup f = some p ∧ Q (.val p) σ h
theorem jex_fld {f : Str} (hN : S.N[i]? = some y := by rfl) (hy : S.sc.names.lookup y = some .local := by rfl) (hd1 : (y == ("__debug__" : Str)) = false := by decide) (hd2 : (y == ("__classdict__" : Str)) = false := by decide)
    (hb : ∀ env, attributeBase (.Name y p1) f env (eval (.Name y p1) env) = eval (.Name y p1) env := by intro _; rfl) : JEX S x i (.Attribute (.Name y p1) f pos) (wXF S.K S.mg x f) where
  mono := fun σ h Q Q' E E' k j ⟨xf, p, e, q⟩ => ⟨xf, p, e, k _ _ _ q⟩
  run := fun X cls d a A => by
    obtain ⟨A0, Y, oe, pn, rfl, hz, hf⟩ := A
    refine ⟨fun pins s σ H Q I h => ?_⟩
    obtain ⟨F, σp, h', sm, xa, ⟨C, m, xfc, no⟩, p, ep, q⟩ := h
    have k : Y.K = S.K := A0.K
    obtain ⟨C2, m2, e2, dd⟩ := xa.xr
    have m2' : S.mg x.cls = some (.ref C2) := (congrFun A0.mg x.cls).symm.trans m2
    rw [m] at m2'
    cases m2'
    rcases dd with ⟨z, _⟩ | ⟨d', us, z, w, fl⟩
    · rw [z] at ep; cases ep
    · obtain ⟨v, ev, rv⟩ := fl f p ep
      refine (pe_xf (X := Y) (n := f) (C := C) (by rw [k]; exact xfc) (by rw [k]; exact no) hz hf (pe_var (i := i) (by rw [A0.N]; exact hN) (vis_of A0 (Or.inl hy)) hd1 hd2) (hb _)).run pins s σ H Q I ?_
      exact ⟨.ref a, xa.sl, rfl, e2, d', us, v, z, w, ev, q F H v .refl (rsv sm (rv.keep fun _ _ z _ => by cases z))⟩
/-! statements of a suite -/
theorem jsx_lift {st : List Stmt} {T : WS} (h : JSs S.sui st T) : JSX S x i st T where
  mono := h.mono
  run := fun X cls d a A => by
    obtain ⟨A0, Y, oe, pn, rfl, hz, hf⟩ := A
    exact pss_weak (h.run _ noW A0 takes0 PassesOwn.never) fun D σ H ⟨F, σp, h', s, xa, q⟩ => ⟨F, σp, h', s, q⟩
structure JX1 (S : Sc) (x : PX) (i : Nat) (st : Stmt) (T : WS) : Prop where
  run : ∀ X cls d a, AtX S X cls d a → PS X st (LSX X.K X.mg x cls d a i T)
  mono : MonoS T
theorem jsx_cons {st : Stmt} {rest : List Stmt} {T U : WS} (h1 : JX1 S x i st T) (h2 : JSs S.sui rest U) : JSX S x i (st :: rest) (sSeq T U) where
  mono := sSeq_mono h1.mono h2.mono
  run := fun X cls d a A => by
    have r1 := h1.run X cls d a A
    obtain ⟨A0, Y, oe, pn, rfl, hz, hf⟩ := A
    refine pss_weak (pss_cons r1 (h2.run _ noW A0 takes0 PassesOwn.never)) fun D σ H ⟨F, σp, h', s, xa, q⟩ => ?_
    refine ⟨F, σp, h', s, xa, ?_⟩
    let P := pd Y.K Y.mg F H D noW
    refine h1.mono { P with nx := U P } _ _ _ ⟨fun σ1 h1' q F1 H1 σ' f1 s1 => ⟨F1, σ1, h1', s1, h2.mono _ _ _ _ (pd_step f1) q⟩, fun _ _ _ z => z, fun _ _ z => z, fun _ _ z => z, fun _ _ _ z => z⟩ q
theorem jsx_one {st : Stmt} {T : WS} (h1 : JX1 S x i st T) : JSX S x i [st] T where
  mono := h1.mono
  run := fun X cls d a A => pss_one (h1.run X cls d a A)
theorem ret_main {K : PySem.W.Frag} {mg : Str → Option Value} {F F1 : Ft} {H H1 : Hp} {D : Ends} {W : WX} {σ : L2.St} {σp σ1 : PSt} {h h1 : PH} {ev : EV} {v : V} (s : Sm K H F σp h σ) (f1 : Fr F H F1 H1) (r1 : RS K H F1 σ1 h1 σ H1 ev v) (q1 : retE (pd K mg F H D W) ev σ1 h1) : D.rt v H1 := by
    cases ev with
    | val p => exact q1 F1 H1 σ v f1 r1
    | own o =>
      obtain ⟨a, u, rfl, n, eu, c, sm, z, nw⟩ := r1
      refine q1 F1 H1 σ _ f1 ⟨a, u, rfl, n, eu, c, sm, z, fun w => ?_⟩
      rw [f1.bb] at w
      obtain ⟨u', e'⟩ := s.bt a w
      rw [nw] at e'; cases e'
    | bor i =>
      have q1 : retB (pd K mg F H D W) i σ1 h1 := q1
      obtain ⟨s1, ev⟩ := r1
      unfold retB at q1
      split at q1
      · rename_i p e
        obtain ⟨u, eu, r⟩ := s1.val i p e
        rw [ev] at eu; cases eu
        exact q1 F1 H1 σ v f1 ⟨s1, r⟩
      · rename_i o e
        obtain ⟨a, ea, _⟩ := s1.own i o e
        rw [ev] at ea; cases ea
        exact q1 (F1.but a) H1 (σ.set i none) _ ⟨f1.zz, f1.bb, f1.st, fun b z => f1.nw b z.1, f1.dm⟩ (s1.give e ev)
      · exact q1.elim
theorem jx1_ret {e : Expr} {T : WE} (he : JEX S x i e T) : JX1 S x i (.Return (some e) pos) (sRet T) where
  mono := fun D D' σ h l q => he.mono _ _ _ _ _ _ (fun _ _ _ q => retE_mono l q) l.ex q
  run := fun X cls dd a A => by
    refine ps_weak (ps_ret (he.run X cls dd a A)) fun D σ H q => ?_
    obtain ⟨F, σp, h, s, xa, q⟩ := q
    exact ⟨F, σp, h, s, xa, he.mono _ _ _ _ _ _ (fun ev σ1 h1 q1 F1 H1 v f1 r1 => ret_main s f1 r1 q1) (fun _ _ _ z => ex_of z) q⟩
def sIfP (B : Bool → Prop) (T U : WS) : WS := fun D σ h => ∃ b, B b ∧ if b = true then T D σ h else U D σ h
theorem jx1_if {t : Expr} {b1 b2 : List Stmt} {B : Bool → Prop} {T U : WS} (h : JTP S x i t B) (h1 : JSX S x i b1 T) (h2 : JSX S x i b2 U) : JX1 S x i (.If t b1 b2 pos) (sIfP B T U) where
  mono := fun D D' σ h l ⟨b, xi, q⟩ => ⟨b, xi, by
    cases b with
    | true => exact h1.mono _ _ _ _ l q
    | false => exact h2.mono _ _ _ _ l q⟩
  run := fun X cls d a A => ps_weak (ps_if (h.run X cls d a A) (h1.run X cls d a A) (h2.run X cls d a A)) fun D σ H ⟨F, σp, h', s, xa, b, xi, q⟩ => by
    refine ⟨xa, b, xi, ?_⟩
    cases b with
    | true => exact ⟨F, σp, h', s, xa, q⟩
    | false => exact ⟨F, σp, h', s, xa, q⟩
theorem jx1_lift {st : Stmt} {T : WS} (h : JS S.sui st T) : JX1 S x i st T where
  mono := h.mono
  run := fun X cls d a A => by
    obtain ⟨A0, Y, oe, pn, rfl, hz, hf⟩ := A
    exact ps_weak (h.run _ noW A0 takes0 PassesOwn.never) fun D σ H ⟨F, σp, h', s, xa, q⟩ => ⟨F, σp, h', s, q⟩
end
/-! ### try -/
/-- what an except clause says of an error of a class -/
structure XM (K : PySem.W.Frag) (mg : Str → Option Value) (x : Str) (cv : Value) (b : Bool) : Prop where
  ex : ∃ D, mg x = some (.ref D) ∧ PySem.W.exmOne K (.ref D) cv = some b
/-- the ends of an except suite (it lets nothing out) -/
def suiD (i : Nat) (D : PD) : PD := { D with nx := fun σ2 h2 => D.nx (σ2.set i none) h2, bk := fun σ2 h2 => D.bk (σ2.set i none) h2, ct := fun σ2 h2 => D.ct (σ2.set i none) h2, ex := fun _ _ _ => False }
def tryD (K : PySem.W.Frag) (mg : Str → Option Value) (cv : Value) (i : Nat) (U : PX → WS) (D : PD) : PD := { D with ex := fun x σ1 h1 => ∃ b, XM K mg x.cls cv b ∧ if b = true then (i < σ1.length ∧ U x (suiD i D) (σ1.set i (some (.val .bad))) h1) else D.ex x σ1 h1 }
def sTry (K : PySem.W.Frag) (mg : Str → Option Value) (cv : Value) (i : Nat) (T : WS) (U : PX → WS) : WS := fun D σ h => T (tryD K mg cv i U D) σ h
section
variable {S : Sc} {body suite : List Stmt} {b₀ : Stmt} {n c : Str} {i : Nat} {np pos pos' : Pos} {v : V} {cv : Value} {T : WS} {U : PX → WS}
theorem js_try (i : Nat) (nv : NameV S.mg c v cv) (hb : JSs S body T) (hsu : ∀ x, JSX S x i (b₀ :: suite) (U x)) (ht : S.top = true := by rfl) (hN : S.N[i]? = some n := by rfl) (hn : S.sc.names.lookup n = some .local := by rfl) (hc : S.sc.names.lookup c = some .globalImplicit := by rfl) (hd : (c == ("__debug__" : Str)) = false := by decide) :
    JS S (.Try body [.ExceptHandler (some (.Name c np)) (some n) (b₀ :: suite) pos'] [] [] pos) (sTry S.K S.mg cv i T U) where
  mono := fun D D' σ h l q => by
    unfold sTry at q ⊢
    refine hb.mono (tryD S.K S.mg cv i U D) (tryD S.K S.mg cv i U D') _ _ ⟨l.nx, l.rt, l.bk, l.ct, fun x σ1 h1 ⟨b, xm, q⟩ => ⟨b, xm, ?_⟩⟩ q
    cases b with
    | true => exact ⟨q.1, (hsu x).mono (suiD i D) (suiD i D') _ _ ⟨fun _ _ z => l.nx _ _ z, l.rt, fun _ _ z => l.bk _ _ z, fun _ _ z => l.ct _ _ z, fun _ _ _ z => z⟩ q.2⟩
    | false => exact l.ex _ _ _ q
  run := fun X W A tk hp => by
    obtain ⟨t1, t2⟩ := A.top ht
    have nm : Names X c cv := ⟨gl_of A hc, hd, by
      cases nv with
      | own m => exact .inl (by rw [A.mg]; exact m)
      | blt m b nn => exact .inr ⟨by rw [A.mg]; exact m, b, nn⟩⟩
    refine ps_weak (ps_try_as (i := i) (n := n) (Wout := W) (tb := fun W' => LS X.K X.mg T W') (ts := fun a cls d => fun D σ H => ∃ x, LSX X.K X.mg x cls d a i (U x) D σ H) t1 t2 A.nd (by rw [A.N]; exact hN) (by show X.env.scope.names.lookup n = _; rw [A.sc]; exact hn) nm tk (fun W' pn xe tk' hp' => hb.run _ _ (A.tr pn xe) tk' hp') fun a oe cls d pn hz hf => ?_) fun D σ H q => ?_
    · refine ⟨fun pins s σ H D I h => ?_⟩
      obtain ⟨x, h⟩ := h
      exact ((hsu x).run (X.suite a ((a, oe) :: pn)) cls d a ⟨A.sui a _, X, oe, pn, rfl, hz, hf⟩).run pins s σ H D I h
    · obtain ⟨F, σp, h, s, q⟩ := q
      refine ⟨F, σp, h, s, hb.mono (tryD S.K S.mg cv i U (pd X.K X.mg F H D W)) (pd X.K X.mg F H D _) _ _ ⟨fun _ _ z => z, fun _ _ _ z => z, fun _ _ z => z, fun _ _ z => z, fun x σ1 h1 ⟨b, ⟨D0, m, xm⟩, q⟩ F1 H1 σ' cls d f1 s1 xr => ?_⟩ q⟩
      have xr0 := xr
      obtain ⟨C, m2, rfl, dd⟩ := xr
      rw [A.mg, m] at m2
      cases m2
      refine ⟨b, by rw [A.K]; exact xm, fun e a na => ?_, fun e => ?_⟩
      · subst e
        obtain ⟨hl, q⟩ := q
        have hl2 : i < σ'.length := by rw [← s1.len]; exact hl
        refine ⟨x, F1, σ1.set i (some (.val .bad)), h1, s1.setVal (.bad _), ⟨xr0, by rw [List.getElem?_set_self hl2]⟩, (hsu x).mono (suiD i (pd X.K X.mg F H D W)) _ _ _ ?_ q⟩
        refine ⟨fun σ2 h2 q F2 H2 σ'' f2 s2 => q F2 H2 _ (f1.trans f2) (s2.setNone i), fun e σ2 h2 q F2 H2 σ'' v f2 r => q F2 H2 σ'' v (f1.trans f2) r, fun σ2 h2 q F2 H2 σ'' f2 s2 => q F2 H2 _ (f1.trans f2) (s2.setNone i), fun σ2 h2 q F2 H2 σ'' f2 s2 => q F2 H2 _ (f1.trans f2) (s2.setNone i), fun y σ2 h2 q F2 H2 σ'' cls d f2 s2 r => q.elim⟩
      · subst e
        exact q F1 H1 σ' _ d f1 s1 xr0
def suiE (D : PD) : PD := { D with ex := fun _ _ _ => False }
def tryO (K : PySem.W.Frag) (mg : Str → Option Value) (cv : Value) (U : WS) (D : PD) : PD := { D with ex := fun x σ1 h1 => ∃ b, XM K mg x.cls cv b ∧ if b = true then U (suiE D) σ1 h1 else D.ex x σ1 h1 }
def sTryO (K : PySem.W.Frag) (mg : Str → Option Value) (cv : Value) (T U : WS) : WS := fun D σ h => T (tryO K mg cv U D) σ h
theorem js_tryO {V' : WS} (nv : NameV S.mg c v cv) (hb : JSs S body T) (hsu : JSs S.sui (b₀ :: suite) V') (ht : S.top = true := by rfl) (hc : S.sc.names.lookup c = some .globalImplicit := by rfl) (hd : (c == ("__debug__" : Str)) = false := by decide) :
    JS S (.Try body [.ExceptHandler (some (.Name c np)) none (b₀ :: suite) pos'] [] [] pos) (sTryO S.K S.mg cv T V') where
  mono := fun D D' σ h l q => by
    refine hb.mono (tryO S.K S.mg cv V' D) (tryO S.K S.mg cv V' D') _ _ ⟨l.nx, l.rt, l.bk, l.ct, fun x σ1 h1 ⟨b, xm, q⟩ => ⟨b, xm, ?_⟩⟩ q
    cases b with
    | true => exact hsu.mono (suiE D) (suiE D') _ _ ⟨l.nx, l.rt, l.bk, l.ct, fun _ _ _ z => z⟩ q
    | false => exact l.ex _ _ _ q
  run := fun X W A tk hp => by
    obtain ⟨t1, t2⟩ := A.top ht
    have nm : Names X c cv := ⟨gl_of A hc, hd, by
      cases nv with
      | own m => exact .inl (by rw [A.mg]; exact m)
      | blt m b nn => exact .inr ⟨by rw [A.mg]; exact m, b, nn⟩⟩
    refine ps_weak (ps_try_only (Wout := W) (tb := fun W' => LS X.K X.mg T W') (ts := fun a cls d => LS X.K X.mg V' noW) t1 t2 nm tk (fun W' pn xe tk' hp' => hb.run _ _ (A.tr pn xe) tk' hp') fun a oe cls d pn hz hf => ?_) fun D σ H q => ?_
    · exact hsu.run (X.suite a ((a, oe) :: pn)) noW (A.sui a _) takes0 PassesOwn.never
    · obtain ⟨F, σp, h, s, q⟩ := q
      refine ⟨F, σp, h, s, hb.mono (tryO S.K S.mg cv V' (pd X.K X.mg F H D W)) (pd X.K X.mg F H D _) _ _ ⟨fun _ _ z => z, fun _ _ _ z => z, fun _ _ z => z, fun _ _ z => z, fun x σ1 h1 ⟨b, ⟨D0, m, xm⟩, q⟩ F1 H1 σ' cls d f1 s1 xr => ?_⟩ q⟩
      have xr0 := xr
      obtain ⟨C, m2, rfl, dd⟩ := xr
      rw [A.mg, m] at m2
      cases m2
      refine ⟨b, by rw [A.K]; exact xm, fun e a na => ?_, fun e => ?_⟩
      · subst e
        refine ⟨F1, σ1, h1, s1, hsu.mono (suiE (pd X.K X.mg F H D W)) _ _ _ ?_ q⟩
        exact ⟨fun σ2 h2 q F2 H2 σ'' f2 s2 => q F2 H2 _ (f1.trans f2) s2, fun e σ2 h2 q F2 H2 σ'' v f2 r => q F2 H2 σ'' v (f1.trans f2) r, fun σ2 h2 q F2 H2 σ'' f2 s2 => q F2 H2 _ (f1.trans f2) s2, fun σ2 h2 q F2 H2 σ'' f2 s2 => q F2 H2 _ (f1.trans f2) s2, fun y σ2 h2 q F2 H2 σ'' cls d f2 s2 r => q.elim⟩
      · subst e
        exact q F1 H1 σ' _ d f1 s1 xr0
end
end PP
set_option Elab.async false
set_option linter.all false
set_option maxRecDepth 100000
set_option maxHeartbeats 4000000
namespace PP
open PySem PySem.Spec PyProof.Rows L2

/-! ### names of classes and built-in types as values -/
def cvOf (mg : Str → Option Value) (c : Str) : Value := match mg c with
  | some u => u
  | none => (bootBuiltins c).getD .none
def vvOf (mg : Str → Option Value) (c : Str) : V := match cvOf mg c with
  | .ref a => .ref a
  | .type n => .ty n
  | _ => .non
theorem nv_own {mg : Str → Option Value} {c : Str} {C : Addr} (h : mg c = some (.ref C)) : NameV mg c (vvOf mg c) (cvOf mg c) := by
  have e : cvOf mg c = .ref C := by unfold cvOf; rw [h]
  have e2 : vvOf mg c = .ref C := by unfold vvOf; rw [e]
  rw [e, e2]
  exact .own h
theorem nv_blt {mg : Str → Option Value} {c : Str} {n : String} (h : mg c = none) (b : bootBuiltins c = some (.type n)) (ne : c ≠ "__name__") : NameV mg c (vvOf mg c) (cvOf mg c) := by
  have e : cvOf mg c = .type n := by unfold cvOf; rw [h, b]; rfl
  have e2 : vvOf mg c = .ty n := by unfold vvOf; rw [e]
  rw [e, e2]
  exact .blt h b ne
theorem FnS.to {P : Program} {w : World} {K : PySem.W.Frag} {mg : Str → Option Value} {base : Heap} {N N' : List Str} {st st' : Stmt} {k k' n : Nat} {x : Str} {dv : List PV} {sp : PSp} (G : FnS (.fn0 P w K mg base N st k) x n dv sp) (h : k ≤ k') : FnS (.fn0 P w K mg base N' st' k') x n dv sp where
  ex := by
    obtain ⟨f, fd, ps, ds, dvs, j, a, b, c, d, e, f', g⟩ := G.ex
    exact ⟨f, fd, ps, ds, dvs, j, a, b, c, d, Nat.le_trans e h, f', g⟩
  mono := G.mono
theorem FnS.blk {S : Sc} {x : Str} {n : Nat} {dv : List PV} {sp : PSp} {sc : Scope} (G : FnS S x n dv sp) : FnS (S.blk sc) x n dv sp := ⟨G.ex, G.mono⟩
theorem FnS.sui {S : Sc} {x : Str} {n : Nat} {dv : List PV} {sp : PSp} (G : FnS S x n dv sp) : FnS S.sui x n dv sp := ⟨G.ex, G.mono⟩
/-- a def without defaults, for its callers -/
theorem fnS_of {P : Program} {w : World} {K : PySem.W.Frag} {mg : Str → Option Value} {base : Heap} {x qual : Str} {st st' : Stmt} {f : Addr} {fd : FuncData} {N N' ps : List Str} {k k' n : Nat} {sp : PSp} {T : WS} (F : Fun K x qual st f fd) (bi : Binds K fd ps []) (m : mg x = some (.ref f)) (fs : FnScope N ps (defScope st)) (hn : ps.length = n)
    (hb : JSs (.fn0 P w K mg base N st k) (defBody st) T) (hm : MonoF sp) (hsp : ∀ qs h Q E, sp qs h Q E → T (pdF Q E) (startP N qs) h) (hk : k + 1 ≤ k') : FnS (.fn0 P w K mg base N' st' k') x n [] sp where
  ex := ⟨f, fd, ps, [], [], k + 1, m, F.kp, bi, .nil, hk, fun _ _ => .nil, fnOk_of F fs hn hb hsp⟩
  mono := hm
theorem pgs_nil0 {X : Cx} : PGs X [] (tNames []) := pgs_nil
end PP
set_option Elab.async false
set_option linter.all false
set_option maxRecDepth 100000
set_option maxHeartbeats 4000000
namespace PP
open PySem PySem.Spec PyProof.Rows L2
/-! ### defs with defaults, calls without arguments -/
theorem fnOk_ofD {P : Program} {w : World} {K : PySem.W.Frag} {mg : Str → Option Value} {base : Heap} {x qual : Str} {st : Stmt} {f : Addr} {fd : FuncData} {N ps : List Str} {k n : Nat} {sp : PSp} {T : WS} {dvs : List V} {kws : List (Str × V)} (F : FunD K x qual (defArgs st) (defBody st) (defScope st) dvs kws f fd) (fs : FnScope N ps (defScope st)) (hn : ps.length = n)
    (hb : JSs (.fn0 P w K mg base N st k) (defBody st) T) (hsp : ∀ qs h Q E, sp qs h Q E → T (pdF Q E) (startP N qs) h) : FnOk P w K mg base (L2.CX P w) (k + 1) f fd ps (LF K mg n sp) := by
  refine F.ok fs (fun vs H Q E h => by rw [h.1, hn]) fun cdv A outer s H vs Q E hr h => ?_
  obtain ⟨hl, qs, hh, hs, rp, q⟩ := h
  have tk : Takes (cxOf (L2.CX P w) P w K mg base N qual (defScope st) f cdv A outer s H E) (fun cls d _ H => E cls d H) := takes_of rfl rfl rfl rfl
  refine ⟨_, hb.run _ _ (At.cxOf fs hr) tk ?_, ?_⟩
  · exact L2.passes_of rfl
  · refine ⟨entryF hh H, startP N qs, hh, .start hs rp, hb.mono _ _ _ _ ?_ (hsp _ _ _ _ q)⟩
    refine ⟨fun σ h' q F' H' σ' f' s' => ?_, fun e σ h' q F' H' σ' v f' r' => ?_, fun _ _ z => z.elim, fun _ _ z => z.elim, fun px σ h' q F' H' σ' cls d f' s' xr => ?_⟩
    · obtain ⟨e1, e2⟩ := end_hs s'
      exact q H' .non (end_fr (σp := σ) (σ := σ') f' fun a o z => (s'.hp a o z).2.1) ⟨e1, .non⟩
    · cases e with
      | val p =>
        obtain ⟨s', r'⟩ := r'
        obtain ⟨e1, e2⟩ := end_hs s'
        exact q H' v (end_fr (σp := σ) (σ := σ') f' fun a o z => (s'.hp a o z).2.1) ⟨e1, r'.keep e2⟩
      | bor i => exact r'.elim
      | own o =>
        obtain ⟨a, u, rfl, nf, eu, c, s', z, nb⟩ := r'
        obtain ⟨e1, e2⟩ := end_hs s'
        refine q H' _ (end_fr (σp := σ) (σ := σ') f' fun a o z => (s'.hp a o z).2.1) ⟨a, u, rfl, ?_, eu, c.keep e2, e1, z, ?_⟩
        · cases e : h' a with
          | none => rfl
          | some o => exact absurd (s'.hp a o e).2.1 nf
        · cases e : H a with
          | none => rfl
          | some u =>
            refine absurd ?_ nb
            rw [f'.bb]
            show (H a).isSome = true
            rw [e] <;> rfl
    · obtain ⟨e1, e2⟩ := end_hs s'
      exact q H' cls d (end_fr (σp := σ) (σ := σ') f' fun a o z => (s'.hp a o z).2.1) e1 xr

theorem funD_mk {K : PySem.W.Frag} {x qual : Str} {st : Stmt} {f T : Addr} {oc tc : Value} {od an td : Option Addr} {osl tsl : Array (Option Value)} {kV doc pm cdv ct : Value} {its : List Value} {n : Nat} {dvs : List V}
    (l : K.lookup f = some ⟨oc, od, .func (PySem.W.fnOf x qual (defArgs st) (defBody st) (defScope st) (.ref T) kV doc pm an cdv ct), osl⟩) (c : PySem.W.codeIn K cdv qual = true) (k : PySem.W.keepIn K (.ref f) = true)
    (lT : K.lookup T = some ⟨tc, td, .seq its.toArray n, tsl⟩) (r : Vals dvs its) (ne : dvs ≠ []) : FunD K x qual (defArgs st) (defBody st) (defScope st) dvs [] f (PySem.W.fnOf x qual (defArgs st) (defBody st) (defScope st) (.ref T) kV doc pm an cdv ct) :=
  ⟨⟨oc, od, .ref T, kV, doc, pm, an, cdv, ct, osl, rfl, l, c, .inr ⟨ne, T, _, its, n, rfl, lT, rfl, r⟩, .inl rfl⟩, k⟩
theorem fnS_ofD {P : Program} {w : World} {K : PySem.W.Frag} {mg : Str → Option Value} {base : Heap} {x qual : Str} {st st' : Stmt} {f : Addr} {fd : FuncData} {N N' ps : List Str} {k k' n : Nat} {sp : PSp} {T : WS} {dvs : List V} {ds : List Value} {dv : List PV} {dv' : List V}
    (F : FunD K x qual (defArgs st) (defBody st) (defScope st) dvs [] f fd) (bi : Binds K fd ps ds) (vd : Vals dv' ds) (rp : ∀ H F, RpL K H F dv dv') (m : mg x = some (.ref f)) (fs : FnScope N ps (defScope st)) (hn : ps.length = n)
    (hb : JSs (.fn0 P w K mg base N st k) (defBody st) T) (hm : MonoF sp) (hsp : ∀ qs h Q E, sp qs h Q E → T (pdF Q E) (startP N qs) h) (hk : k + 1 ≤ k') : FnS (.fn0 P w K mg base N' st' k') x n dv sp where
  ex := ⟨f, fd, ps, ds, dv', k + 1, m, F.kp, bi, vd, hk, rp, fnOk_ofD F fs hn hb hsp⟩
  mono := hm
section
variable {S : Sc} {x : Str} {n : Nat} {dv : List PV} {sp : PSp} {p pos : Pos}
theorem je_call0 (G : FnS S x n dv sp) (hn : dv.length = n := by rfl) (hc : S.calm = true := by rfl) (hg : S.sc.names.lookup x = some .globalImplicit := by rfl) (hdb : (x == ("__debug__" : Str)) = false := by decide) : JE S (.Call (.Name x p) [] [] pos) (wCallN 0 sp dv wNil) where
  mono := wCallN_mono (ja_nil (S := S)).mono G.mono
  run := fun X W A tk => ⟨fun pins s σ H Q I q => by
    obtain ⟨F, σp, h, m0, _, q2⟩ := q
    obtain ⟨f, fd, ps', ds, dvs, k, hm, hk, hb, hd, hle, rd, ok⟩ := G.ex
    refine wpAny_Call_Name_kw (ld_glob I (gl_of A hg) (by rw [A.mg]; exact hm) ?_ hdb)
    exact PySem.W.callWith_K0 I.kIn (by rw [A.K]; exact hk) (run_call (us := []) (vs := []) A tk hc G hm I .nil m0 .nil q2 (fun r h3 F' H' v q f r => q F' H' v f r) (fun x h3 F' H' cls d q f s r => q F' H' cls d f s r) (by simpa using hn))⟩
end
end PP
set_option Elab.async false
set_option linter.all false
set_option maxRecDepth 100000
set_option maxHeartbeats 4000000
/-! objects of the text's own classes: fields, methods, making -/
namespace PP
open PySem PySem.Spec PyProof.Rows L2
/-! ### a def's promise, some lists of ours unseen -/
def spH (sp : Sp) : Sp := fun vs H Q E => ∃ O, Plain H O ∧ sp vs (hid H O) (fun v H' => (∀ b, O b → H' b = none) → Q v (mrg H H' O)) (fun cls d H' => (∀ b, O b → H' b = none) → E cls d (mrg H H' O))
section
variable {P : Program} {w : World} {K : PySem.W.Frag} {mg : Str → Option Value} {base : Heap} {A : Around} {outer : List Env} {s : Shared} {H : Hp} {O : Addr → Prop}
theorem env0_hidG (p : Plain H O) (e : Env0 P w K mg base A outer s H) : Env0 P w K mg base A outer s (hid H O) where
  frames := e.frames
  mod := e.mod
  bs := fun b o q => ⟨(e.bs b o q).1, by
    cases z : hid H O b with
    | none => rfl
    | some u => have := (hid_some z).2; rw [(e.bs b o q).2] at this; cases this⟩
  bsz := e.bsz
  funs := e.funs
  frf := fun b q => by
    cases z : hid H O b with
    | none => rfl
    | some u => have := (hid_some z).2; rw [e.frf b q] at this; cases this
  hok := hok_hid p e.hok
  bare := e.bare
end
theorem fnOk_hid {P : Program} {w : World} {K : PySem.W.Frag} {mg : Str → Option Value} {base : Heap} {k : Nat} {f : Addr} {fd : FuncData} {ps : List Str} {sp : Sp} (F : FnOk P w K mg base (L2.CX P w) k f fd ps sp) : FnOk P w K mg base (L2.CX P w) k f fd ps (spH sp) where
  len := fun vs H Q E ⟨O, _, q⟩ => F.len _ _ _ _ q
  run := fun A outer s H args us vs Q E hr e0 hb r ⟨O, pl, h⟩ => by
    have there : ∀ b, O b → ∃ o, s.heap.get? b = some o := fun b o => by
      rcases pl b o with ⟨xs, q⟩ | ⟨xs, q⟩
      · obtain ⟨_, _, _, _, g⟩ := e0.hok b _ q; exact ⟨_, g⟩
      · obtain ⟨_, _, _, _, o, _, _, g, _⟩ := e0.hok b _ q; exact ⟨_, g⟩
    have nf : ∀ b, O b → b ∉ frs outer := fun b o z => by
      have := e0.frf b z
      rcases pl b o with ⟨xs, q⟩ | ⟨xs, q⟩ <;> (rw [q] at this; cases this)
    have nH : ∀ b, H b = none → ¬ O b := fun b n o => by
      rcases pl b o with ⟨xs, q⟩ | ⟨xs, q⟩ <;> (rw [q] at n; cases n)
    have h0 : ∀ b, H b = none → hid H O b = none := fun b n => by rw [hid_out (nH b n)]; exact n
    refine codeAny_mono (F.run A outer s (hid H O) args us vs _ _ hr (env0_hidG pl e0) hb r h) fun r s' hq => ?_
    cases r with
    | error e =>
      obtain ⟨a, B, H', cls, d, rfl, fl, hok, ub, na, os, ag, hE⟩ := hq
      have no : ∀ b, O b → H' b = none := fun b o => let ⟨u, q⟩ := there b o; ub.free b u q (hid_in o)
      have aO : ¬ O a := fun o => by
        obtain ⟨u, q⟩ := there a o
        have q2 := ub.keep a u q (hid_in o) (nf a o)
        have z : B.get? a = none := fl.2.1
        rw [q2] at z; cases z
      refine ⟨a, B, mrg H H' O, cls, d, rfl, fl, hok_mrg pl e0.hok hok no (fun b o x q => ub.keep b o q (hid_in x) (nf b x)), ⟨fun b o e n hb => ub.keep b o e (h0 b n) hb, ub.slot, fun b o e n => ?_, ub.there, fun b xs e => ?_, fun b o xs e => ?_, fun b ps e => ?_⟩, by rw [mrg_out aO]; exact na, os, ag, hE no⟩
      · rw [mrg_out (nH b n)]; exact ub.free b o e (h0 b n)
      · have z := pl.no e (fun _ z => nomatch z) fun _ z => nomatch z
        rw [mrg_out (hid_some z).1]; exact ub.tups b xs z
      · have z := pl.no e (fun _ z => nomatch z) fun _ z => nomatch z
        rw [mrg_out (hid_some z).1]; exact ub.frzs b o xs z
      · have z := pl.no e (fun _ z => nomatch z) fun _ z => nomatch z
        rw [mrg_out (hid_some z).1]; exact ub.tbls b ps z
    | ok fl =>
      cases fl with
      | ret u =>
        obtain ⟨v, H', os, bare, un, hok, r, q⟩ := hq
        have no : ∀ b, O b → H' b = none := fun b o => let ⟨u, q⟩ := there b o; un.free b u q (hid_in o) (by simp)
        refine ⟨v, mrg H H' O, os, bare, ⟨fun b o e n hb hx => un.keep b o e (h0 b n) hb hx, fun b o e n hb hx => un.slot b o e (h0 b n) hb hx, fun b o e n hx => ?_, un.there, fun b xs e => ?_, fun b o xs e => ?_, fun b ps e => ?_⟩, hok_mrg pl e0.hok hok no (fun b o x q => un.keep b o q (hid_in x) (nf b x) (by simp)), r, q no⟩
        · rw [mrg_out (nH b n)]; exact un.free b o e (h0 b n) hx
        · have z := pl.no e (fun _ z => nomatch z) fun _ z => nomatch z
          rw [mrg_out (hid_some z).1]; exact un.tups b xs z
        · have z := pl.no e (fun _ z => nomatch z) fun _ z => nomatch z
          rw [mrg_out (hid_some z).1]; exact un.frzs b o xs z
        · have z := pl.no e (fun _ z => nomatch z) fun _ z => nomatch z
          rw [mrg_out (hid_some z).1]; exact un.tbls b ps z
      | next => exact False.elim hq
      | brk => exact False.elim hq
      | cont => exact False.elim hq
/-! ### a new object of ours -/
section
variable {K : PySem.W.Frag} {H : Hp} {F : Ft} {σp : PSt} {h : PH} {σ : L2.St}
theorem upd_hide {a : Addr} {u : HO} (e : H a = some u) : upd (hide H a) a u = H := by
  funext b
  by_cases q : b = a
  · subst q; rw [upd_same, e]
  · rw [upd_ne q, hide_ne q]
theorem Sm.obj (S : Sm K H F σp h σ) {o : PO} {a : Addr} {u : HO} (n : H a = none) (c : OC K H F o u) (nb : ¬ F.b a) : Sm K (upd H a u) (F.add a) σp (updP h a o) σ ∧ h a = none := by
  have nf : ¬ F a := S.nf n
  have kp : Keep F H (F.add a) (upd H a u) := fun x w e z => ⟨by rw [upd_ne (ne_of_none e n)]; exact e, fun z' => z'.elim z fun z' => by rw [z', n] at e; cases e⟩
  have ha : h a = none := by
    cases q : h a with
    | none => rfl
    | some o' => exact absurd (S.hp a o' q).2.1 nf
  have other : ∀ b v, H b = some v → upd H a u b = some v := fun b v q => by rw [upd_ne (ne_of_none q n)]; exact q
  refine ⟨⟨fun i p q => ?_, fun i o' q => ?_, S.sep, fun b o' q => ?_, S.len, fun b z => ?_, fun b z => ?_, fun b z => ?_⟩, ha⟩
  · obtain ⟨v, e, r⟩ := S.val i p q; exact ⟨v, e, r.keep kp⟩
  · obtain ⟨b, e, r, f, nn, z, nz, nb⟩ := S.own i o' q
    have hb : b ≠ a := fun w => nf (by rw [← w]; exact f)
    exact ⟨b, e, r.keep kp (fun v w => other b v w), .inl f, by rw [updP_ne hb]; exact nn, z, nz, nb⟩
  · by_cases hb : b = a
    · subst hb
      rw [updP_same] at q; cases q
      exact ⟨⟨u, upd_same, c.keep kp⟩, .inr rfl, fun z => nf (S.zf b z).1⟩
    · rw [updP_ne hb] at q
      obtain ⟨q1, q2, q3⟩ := S.hp b o' q
      exact ⟨q1.keep kp fun v w => other b v w, .inl q2, q3⟩
  · rcases z with z | z
    · obtain ⟨v, w⟩ := S.fin b z; exact ⟨v, other b v w⟩
    · rw [z]; exact ⟨u, upd_same⟩
  · obtain ⟨q1, xs, q2⟩ := S.zf b z
    exact ⟨.inl q1, xs, other b _ q2⟩
  · obtain ⟨v, w⟩ := S.bt b z
    exact ⟨v, other b v w⟩
theorem Fr.obj {a : Addr} {u : HO} (n : H a = none) : Fr F H (F.add a) (upd H a u) := (Fr.new n).add n
end
/-! ### fields by name -/
def putFP (f : Str) (v : PV) : List (Str × PV) → List (Str × PV)
  | [] => [(f, v)]
  | (g, x) :: r => if g = f then (g, v) :: r else (g, x) :: putFP f v r
section
variable {K : PySem.W.Frag} {H : Hp} {F : Addr → Prop}
theorem fs_look : ∀ {fs : List (Str × PV)} {us : List (Str × V)} {f : Str} {p : PV}, fs.map (·.1) = us.map (·.1) → RpL K H F (fs.map (·.2)) (us.map (·.2)) → fs.lookup f = some p → ∃ v, us.lookup f = some v ∧ Rp K H F p v
  | [], _, _, _, _, _, e => by cases e
  | (g, x) :: fs, [], _, _, e, _, _ => by cases e
  | (g, x) :: fs, (g', y) :: us, f, p, e, r, l => by
    rw [List.map_cons, List.map_cons, List.cons.injEq] at e
    obtain ⟨e1, e2⟩ := e
    have e1 : g = g' := e1
    subst e1
    cases r with
    | cons ra rb =>
      rw [List.lookup_cons] at l ⊢
      cases hg : f == g with
      | true => rw [hg] at l; cases l; exact ⟨y, rfl, ra⟩
      | false => rw [hg] at l; exact fs_look e2 rb l
theorem fs_none : ∀ {fs : List (Str × PV)} {us : List (Str × V)} {f : Str}, fs.map (·.1) = us.map (·.1) → fs.lookup f = none → us.lookup f = none
  | [], [], _, _, _ => rfl
  | [], _ :: _, _, e, _ => by cases e
  | (g, x) :: fs, [], _, e, _ => by cases e
  | (g, x) :: fs, (g', y) :: us, f, e, l => by
    rw [List.map_cons, List.map_cons, List.cons.injEq] at e
    obtain ⟨e1, e2⟩ := e
    have e1 : g = g' := e1
    subst e1
    rw [List.lookup_cons] at l ⊢
    cases hg : f == g with
    | true => rw [hg] at l; cases l
    | false => rw [hg] at l; exact fs_none e2 l
theorem fs_put {f : Str} {p : PV} {v : V} (rp : Rp K H F p v) : ∀ {fs : List (Str × PV)} {us : List (Str × V)}, fs.map (·.1) = us.map (·.1) → RpL K H F (fs.map (·.2)) (us.map (·.2)) → (putFP f p fs).map (·.1) = (putF f v us).map (·.1) ∧ RpL K H F ((putFP f p fs).map (·.2)) ((putF f v us).map (·.2))
  | [], [], _, _ => ⟨rfl, .cons rp .nil⟩
  | [], _ :: _, e, _ => by cases e
  | (g, x) :: fs, [], e, _ => by cases e
  | (g, x) :: fs, (g', y) :: us, e, r => by
    rw [List.map_cons, List.map_cons, List.cons.injEq] at e
    obtain ⟨e1, e2⟩ := e
    have e1 : g = g' := e1
    subst e1
    cases r with
    | cons ra rb =>
      obtain ⟨i1, i2⟩ := fs_put rp e2 rb
      unfold putFP putF
      by_cases hg : g = f
      · rw [if_pos hg, if_pos hg]
        exact ⟨by rw [List.map_cons, List.map_cons, e2], .cons rp rb⟩
      · rw [if_neg hg, if_neg hg]
        exact ⟨by rw [List.map_cons, List.map_cons, i1], .cons ra i2⟩
end
/-! ### e.f -/
structure CF (K : PySem.W.Frag) (C f : Str) : Prop where
  ex : ∃ Ca, PySem.W.nsIn K mainGlobals C = some (some (.ref Ca)) ∧ Cls K Ca ∧ NoAttr K Ca f
def wFld (K : PySem.W.Frag) (f : Str) (T : WE) : WE := fun σ h Q E => T σ h (fun ev σ1 h1 => ∃ a C fs p, ev = .val (.ref a) ∧ h1 a = some (.ins C fs) ∧ CF K C f ∧ fs.lookup f = some p ∧ Q (.val p) σ1 h1) E
section
variable {S : Sc} {e o : Expr} {es : List Expr} {f m C : Str} {T Tv : WE} {U : WA} {pos pos' apos p : Pos} {sp : PSp} {n : Nat}
theorem je_fld (he : JE S e T) (hb : ∀ env, attributeBase e f env (eval e env) = eval e env := by intro _; rfl) : JE S (.Attribute e f pos) (wFld S.K f T) where
  mono := fun σ h Q Q' E E' i j q => he.mono _ _ _ _ _ _ (fun ev σ h ⟨a, C, fs, p, e1, e2, c, l, q⟩ => ⟨a, C, fs, p, e1, e2, c, l, i _ _ _ q⟩) j q
  run := fun X W A tk => by
    refine pe_weak (pe_fld (he.run X W A tk) (hb _)) fun σ H Q q => ?_
    obtain ⟨F, σp, h', s, q⟩ := q
    refine ⟨F, σp, h', s, he.mono _ _ _ _ _ _ (fun ea σ1 h1 ⟨a, C, fs, p, e1, e2, ⟨Ca, n1, cl, na⟩, l, q1⟩ F1 H1 x f1 r1 => ?_) (fun _ _ _ z => z) q⟩
    subst e1
    obtain ⟨sm, rp⟩ := r1
    cases rp
    obtain ⟨⟨u, eu, Ca', dx, us, n2, rfl, ek, rl⟩, _, _⟩ := sm.hp a _ e2
    rw [A.K, n1] at n2
    cases n2
    obtain ⟨v, lv, rv⟩ := fs_look ek rl l
    exact ⟨a, Ca, dx, us, v, rfl, eu, by rw [A.K]; exact cl, by rw [A.K]; exact na, lv, q1 F1 H1 _ f1 (rsv sm rv)⟩
/-! ### e.f = value -/
def stV (Q : PV → PSt → PH → Prop) : EV → PSt → PH → Prop
  | .own o, σ, h => ∀ a, h a = none → Q (.ref a) σ (updP h a o)
  | .val p, σ, h => share (.val p) σ h Q
  | .bor i, σ, h => share (.bor i) σ h Q
theorem stV_mono {Q Q' : PV → PSt → PH → Prop} (i : ∀ p σ h, Q p σ h → Q' p σ h) : ∀ {e : EV} {σ : PSt} {h : PH}, stV Q e σ h → stV Q' e σ h
  | .own _, _, _, q => fun a n => i _ _ _ (q a n)
  | .val p, _, _, q => share_mono (e := .val p) i q
  | .bor j, _, _, q => share_mono (e := .bor j) i q
theorem stV_ok {K : PySem.W.Frag} {F F1 : Ft} {σ : L2.St} {H H1 : Hp} {σp σ1 : PSt} {h h1 : PH} {ev : EV} {v : V} {Q : PV → PSt → PH → Prop} (s : Sm K H F σp h σ) (f1 : Fr F H F1 H1) (r : RS K H F1 σ1 h1 σ H1 ev v) (q : stV Q ev σ1 h1) :
    ∃ F2 p σ2 h2, Fr F H F2 H1 ∧ Sm K H1 F2 σ2 h2 σ ∧ Rp K H1 F2 p v ∧ Q p σ2 h2 := by
  have gen : ∀ e, RE K F1 σ H1 e v → share e σ1 h1 Q → ∃ F2 p σ2 h2, Fr F H F2 H1 ∧ Sm K H1 F2 σ2 h2 σ ∧ Rp K H1 F2 p v ∧ Q p σ2 h2 := fun e re q => by
    obtain ⟨F2, p, σ2, h2, s2, rp, q2, k2, f2⟩ := share_ok r.sm re q
    exact ⟨F2, p, σ2, h2, f1.trans f2, s2, rp, q2⟩
  cases ev with
  | val p => exact gen _ r.re q
  | bor j => exact gen _ r.re q
  | own o =>
    obtain ⟨a, u, rfl, n, eu, c, sm, z, nw⟩ := r
    have nb : ¬ F1.b a := fun w => by
      rw [f1.bb] at w
      obtain ⟨u', e'⟩ := s.bt a w
      rw [nw] at e'; cases e'
    obtain ⟨s2, ha⟩ := sm.obj hide_same c nb
    rw [upd_hide eu] at s2
    exact ⟨_, _, _, _, f1.add nw, s2, .ref a, q a ha⟩
def sFst (K : PySem.W.Frag) (f : Str) (Tv T : WE) : WS := fun D σ h => Tv σ h (stV fun p σ1 h1 => T σ1 h1 (fun ev σ2 h2 => ∃ a C fs, ev = .val (.ref a) ∧ h2 a = some (.ins C fs) ∧ CF K C f ∧ fs.length < 1000 ∧ D.nx σ2 (updP h2 a (.ins C (putFP f p fs)))) D.ex) D.ex
theorem js_fst (hv : JE S e Tv) (ho : JE S o T) (hs : ∀ env, swapsWith e (some (.Attribute o f pos')) pos.line env = pure false := by intro _; rfl) : JS S (.Assign [.Attribute o f pos'] e pos) (sFst S.K f Tv T) where
  mono := fun D D' σ h l q => hv.mono _ _ _ _ _ _ (fun ev σ1 h1 q => stV_mono (fun p σ1 h1 q => ho.mono _ _ _ _ _ _ (fun ev σ2 h2 ⟨a, C, fs, e1, e2, c, z, q⟩ => ⟨a, C, fs, e1, e2, c, z, l.nx _ _ q⟩) l.ex q) q) l.ex q
  run := fun X W A tk hp => by
    refine ps_weak (ps_fld (ho.run X W A tk) (hv.run X W A tk) (hs _)) fun D σ H q => ?_
    obtain ⟨F, σp, h, s, q⟩ := q
    refine ⟨F, σp, h, s, hv.mono _ _ _ _ _ _ (fun ev σ1 h1 q1 F1 H1 v f1 r1 => ?_) (fun _ _ _ z => ex_of z) q⟩
    obtain ⟨F2, p, σ2, h2, f2, s2, rp, q2⟩ := stV_ok s f1 r1 q1
    refine ⟨F2, σ2, h2, s2, ho.mono _ _ _ _ _ _ (fun eo σ3 h3 ⟨a, C, fs, e1, e2, ⟨Ca, n1, cl, na⟩, z, q3⟩ F3 H3 x f3 r3 => ?_) (fun _ _ _ z F' H' cls d g sm r => z F' H' σ cls d (f2.trans g) sm r) q2⟩
    subst e1
    obtain ⟨sm, rx⟩ := r3
    cases rx
    obtain ⟨⟨u, eu, Ca', dx, us, n2, rfl, ek, rl⟩, _, _⟩ := sm.hp a _ e2
    rw [A.K, n1] at n2
    cases n2
    obtain ⟨k1, k2⟩ := fs_put (f := f) (rp.keep f3.keep) ek rl
    have ln : us.length < 1000 := by
      have := congrArg List.length ek
      simp at this; omega
    obtain ⟨s4, f4⟩ := sm.setHp (o' := .ins C (putFP f p fs)) (u := .ins Ca dx (putF f v us)) e2 ⟨Ca, dx, _, by rw [A.K]; exact n1, rfl, k1, k2⟩
    exact ⟨a, Ca, dx, us, rfl, eu, by rw [A.K]; exact cl, by rw [A.K]; exact na, ln, q3 F3 _ σ ((f2.trans f3).trans f4) s4⟩
end
end PP
set_option Elab.async false
set_option linter.all false
set_option maxRecDepth 100000
set_option maxHeartbeats 1000000
namespace PP
open PySem PySem.Spec PyProof.Rows L2
/-! ### a field as one of several targets -/
theorem pg_fld {X : Cx} {o : Expr} {f : Str} {pos : Pos} {ta : TE} (ho : PE X o ta) : PG X (.Attribute o f pos) (fun v σ H Q => ta σ H fun x H2 => ∃ a C dx fs, x = V.ref a ∧ H2 a = some (HO.ins C dx fs) ∧ Cls X.K C ∧ NoAttr X.K C f ∧ fs.length < 1000 ∧ Q σ (upd H2 a (HO.ins C dx (putF f v fs)))) := by
  refine ⟨fun pins s σ H v u Q I r h => ?_⟩
  rw [assign_Attribute]
  refine wpAny_bind (wpAny_holding (thn (ho.run pins s σ H _ I h) fun ov s2 ⟨x, H2, I2, rx, a, C, dx, fs, ex, ea, c, n, l, q⟩ => ?_))
  subst ex
  cases rx
  refine wpAny_bind (wpAny_standAt ?_)
  refine wpAny_bind (wpAny_holding (setattr_ok I2 ea c n l r fun s3 I3 => ?_))
  exact wpAny_release ⟨σ, _, I3, q⟩
def gF (K : PySem.W.Frag) (f : Str) (To : WE) : WG := fun p σ h Q => To σ h (fun eo σ1 h1 => ∃ a C fs, eo = .val (.ref a) ∧ h1 a = some (.ins C fs) ∧ CF K C f ∧ fs.length < 1000 ∧ Q σ1 (updP h1 a (.ins C (putFP f p fs)))) fun _ _ _ => False
theorem jg_f {S : Sc} {o : Expr} {f : Str} {pos : Pos} {To : WE} (ho : JE S o To) : JG S (.Attribute o f pos) [] (gF S.K f To) where
  mono := fun p σ h Q Q' m q => ho.mono _ _ _ _ _ _ (fun eo σ1 h1 ⟨a, C, fs, e1, e2, c, l, q⟩ => ⟨a, C, fs, e1, e2, c, l, m _ _ q⟩) (fun _ _ _ z => z) q
  run := fun X A => by
    refine pg_weak (pg_fld (ho.run X _ A takes0)) fun v σ H Q q => ?_
    obtain ⟨F, σp, h, p, s, rp, q⟩ := q
    refine ⟨F, σp, h, s, ho.mono _ _ _ _ _ _ (fun eo σ3 h3 ⟨a, C, fs, e1, e2, ⟨Ca, n1, cl, na⟩, z, q3⟩ F3 H3 x f3 r3 => ?_) (fun _ _ _ z => z.elim) q⟩
    subst e1
    obtain ⟨sm, rx⟩ := r3
    cases rx
    obtain ⟨⟨u, eu, Ca', dx, us, n2, rfl, ek, rl⟩, _, _⟩ := sm.hp a _ e2
    rw [A.K, n1] at n2
    cases n2
    obtain ⟨k1, k2⟩ := fs_put (f := f) (rp.keep f3.keep) ek rl
    have ln : us.length < 1000 := by
      have := congrArg List.length ek
      simp at this; omega
    obtain ⟨s4, f4⟩ := sm.setHp (o' := .ins C (putFP f p fs)) (u := .ins Ca dx (putF f v us)) e2 ⟨Ca, dx, _, by rw [A.K]; exact n1, rfl, k1, k2⟩
    exact ⟨a, Ca, dx, us, rfl, eu, by rw [A.K]; exact cl, by rw [A.K]; exact na, ln, q3 F3 _ σ (f3.trans f4) s4 (fun _ _ => rfl) rfl⟩
end PP
set_option Elab.async false
set_option linter.all false
set_option maxRecDepth 100000
set_option maxHeartbeats 4000000
/-! objects of the text's own classes: methods, making -/
namespace PP
open PySem PySem.Spec PyProof.Rows L2
/-- a method of a class of the text, as a caller wants it -/
structure FnM (S : Sc) (C m : Str) (n : Nat) (sp : PSp) : Prop where
  ex : ∃ Ca f fd ps k, PySem.W.nsIn S.K mainGlobals C = some (some (.ref Ca)) ∧ Cls S.K Ca ∧ Meth S.K Ca m f ∧ Binds S.K fd ps [] ∧ k ≤ S.k ∧ FnOk S.P S.w S.K S.mg S.base (L2.CX S.P S.w) k f fd ps (LF S.K S.mg n sp)
  mono : MonoF sp
/-- a class that is called -/
structure FnI (S : Sc) (C : Str) (n : Nat) (sp : PSp) : Prop where
  ex : ∃ Ca f fd ps k, S.mg C = some (.ref Ca) ∧ PySem.W.nsIn S.K mainGlobals C = some (some (.ref Ca)) ∧ Mk S.K Ca f ∧ Binds S.K fd ps [] ∧ k + 1 ≤ S.k ∧ FnOk S.P S.w S.K S.mg S.base (L2.CX S.P S.w) k f fd ps (LF S.K S.mg n sp)
  mono : MonoF sp
section
variable {S : Sc} {e o : Expr} {es : List Expr} {f m C : Str} {T Tv : WE} {U : WA} {pos pos' apos p : Pos} {sp : PSp} {n : Nat}
/-- what lies behind a run over the heap without our lists -/
theorem hid_post {K : PySem.W.Frag} {mg : Str → Option Value} {σ : L2.St} {H : Hp} {F : Ft} {σp : PSt} {h : PH} {Q : VK} {W : WX} {QP : EV → PSt → PH → Prop} {EP' : EPost} (m : Sm K H F σp h σ) (ms : MonoF sp) {ps : List PV} (q : sp ps h (fun r h3 => QP r σp h3) (fun x h3 => EP' x σp h3))
    (hQ : ∀ r h3 F' H' v, QP r σp h3 → Fr F H F' H' → RS K H F' σp h3 σ H' r v → Q v H') (hE : ∀ x h3 F' H' cls d, EP' x σp h3 → Fr F H F' H' → Sm K H' F' σp h3 σ → XR K mg x cls d H' → W cls d σ H') :
    sp ps h (fun r h' => ∀ H' v, Fr (domF h) (hid H (ownA F σp σ)) (domF h') H' → RR K (hid H (ownA F σp σ)) h' H' r v → (∀ b, ownA F σp σ b → H' b = none) → Q v (mrg H H' (ownA F σp σ)))
      (fun x h' => ∀ H' cls d, Fr (domF h) (hid H (ownA F σp σ)) (domF h') H' → HS K h' H' → XR K mg x cls d H' → (∀ b, ownA F σp σ b → H' b = none) → W cls d σ (mrg H H' (ownA F σp σ))) := by
  refine ms _ _ _ _ _ _ (fun r h3 q3 H' v fr rr no => ?_) (fun x h3 q3 H' cls d fr hs xr no => ?_) q
  · cases r with
    | val p =>
      obtain ⟨hs, rv⟩ := rr
      obtain ⟨F', f', s', k', _⟩ := m.back fr no hs
      exact hQ _ _ F' _ v q3 f' (rsv s' (rv.keep k'))
    | bor i => exact rr.elim
    | own o =>
      obtain ⟨a, u, rfl, na, ea, c, hs, z, wn⟩ := rr
      have aO : ¬ ownA F σp σ a := fun o => by rw [no a o] at ea; cases ea
      rw [hid_out aO] at wn
      have fr' : Fr (domF h) (hid H (ownA F σp σ)) (domF h3) (hide H' a) := ⟨rfl, rfl, fun b u e n => by
        rw [hide_ne fun z => by rw [z] at e; have := (hid_some e).2; rw [wn] at this; cases this]
        exact fr.st b u e n, fr.nw, fun b e => by
          by_cases z : b = a
          · subst z; rw [hid_out aO]; exact wn
          · rw [hide_ne z] at e; exact fr.dm b e⟩
      obtain ⟨F', f', s', k', nf⟩ := m.back fr' (fun b o => by
        by_cases e : b = a
        · subst e; exact hide_same
        · rw [hide_ne e]; exact no b o) hs
      have nF : ¬ F' a := by
        rcases nf a hide_same with z | z
        · exact z
        · exact absurd z aO
      refine hQ _ _ F' _ _ q3 (f'.trans ?_) ⟨a, u, rfl, nF, by rw [mrg_out aO]; exact ea, ?_, ?_, z, wn⟩
      · refine ⟨rfl, rfl, fun b u e n => ?_, fun b z => .inl z, fun b e => ?_⟩
        · by_cases o : ownA F σp σ b
          · rw [mrg_in o] at e ⊢; exact e
          · rw [mrg_out o] at e ⊢; exact (hide_some e).2
        · by_cases o : ownA F σp σ b
          · rw [mrg_in o] at e ⊢; exact e
          · rw [mrg_out o] at e ⊢
            by_cases z : b = a
            · subst z; exact hide_same
            · rw [hide_ne z]; exact e
      · rw [mrg_hide aO]; exact c.keep k'
      · rw [mrg_hide aO]; exact s'
  · obtain ⟨F', f', s', k', _⟩ := m.back fr no hs
    refine hE _ _ F' _ cls d q3 f' s' (xr.keep (fun a us e => by rw [mrg_out fun o => by rw [no a o] at e; cases e]; exact e) fun b u e _ => ⟨by rw [mrg_out fun o => by rw [no b o] at e; cases e]; exact e, fun z => z⟩)
/-- o.m(e, ..) -/
def wMeth (C m : Str) (n : Nat) (sp : PSp) (T : WE) (U : WA) : WE := fun σ h Q E => T σ h (fun eo σ1 h1 => ∃ a fs, eo = .val (.ref a) ∧ h1 a = some (.ins C fs) ∧ fs.lookup m = none ∧
  U σ1 h1 (fun es σ2 h2 => es.length = n ∧ shareL es σ2 h2 fun ps σ3 h3 => sp (.ref a :: ps) h3 (fun r h4 => Q r σ3 h4) (fun x h4 => E x σ3 h4)) E) E
theorem wMeth_mono (mt : Mono T) (mu : Mono U) (ms : MonoF sp) : Mono (wMeth C m n sp T U) := fun σ h Q Q' E E' i j q => mt _ _ _ _ _ _ (fun eo σ h ⟨a, fs, e1, e2, l, q⟩ => ⟨a, fs, e1, e2, l, mu _ _ _ _ _ _ (fun es σ h ⟨l, q⟩ => ⟨l, shareL_mono (fun ps σ h q => ms _ _ _ _ _ _ (fun r h q => i _ _ _ q) (fun x h q => j _ _ _ q) q) q⟩) j q⟩) j q
theorem je_meth {k : Nat} (G : FnM S C m n sp) (he : JE S o T) (ha : JA S (e :: es) U) (hn : k + 1 = n := by rfl) (hc : S.calm = true := by rfl)
    (hst : ∀ env, starEach (e :: es) env = (false, eval e env) :: starEach es env := by intro _; rfl) (hpl : ∀ env, (backTo pos (starEach es env)).any (·.1) = false := by intro _; rfl) {pl : Env → Sem Bool}
    (ht : ∀ env, eval (.Call (.Attribute o m apos) (e :: es) [] pos) env = (do
      let ov ← eval o env
      standAt apos.atName
      let (f, first) ← holding [ov] (getMethod ov m (pl env))
      callWith pos f first (backTo pos (starEach (e :: es) env)) (backToKw pos (keywordEach [] env))) := by intro _; rfl) :
    JE S (.Call (.Attribute o m apos) (e :: es) [] pos) (wMeth C m k sp T U) where
  mono := wMeth_mono he.mono ha.mono G.mono
  run := fun X W A tk => ⟨fun pins s σ H Q I q => by
    obtain ⟨F, σp, h, m0, q⟩ := q
    obtain ⟨Ca, f, fd, ps', j, hC, hcl, hm, hb, hle, ok⟩ := G.ex
    have hcX : Cls X.K Ca := by rw [A.K]; exact hcl
    have hmX : Meth X.K Ca m f := by rw [A.K]; exact hm
    have okX : FnOk X.prog X.w X.K X.mg X.base (L2.CX X.prog X.w) j f fd ps' (LF X.K X.mg n sp) := by rw [A.P, A.w, A.K, A.mg, A.base]; exact ok
    have hbX : Binds X.K fd ps' [] := by rw [A.K]; exact hb
    refine PySem.W.methodCall_KW (pl := pl X.env) (thn ((he.run X W A tk).run pins s σ H (fun x H1 => ∃ a dx us, x = .ref a ∧ H1 a = some (.ins Ca dx us) ∧ us.lookup m = none ∧ ∃ F1 σ1 h1, Sm X.K H1 F1 σ1 h1 σ ∧ Fr F H F1 H1 ∧
      U σ1 h1 (fun es σ2 h2 => es.length = k ∧ shareL es σ2 h2 fun ps σ3 h3 => sp (.ref a :: ps) h3 (fun r h4 => CQ X.K F σ H Q r σ3 h4) (fun x h4 => CE' X.K X.mg F σ H W x σ3 h4)) (CE' X.K X.mg F1 σ H1 W)) I ⟨F, σp, h, m0, ?_⟩) fun u s1 ⟨x, H1, I1, rx, a, dx, us, ex, ea, l, F1, σ1, h1, m1, f1, q1⟩ => ?_) (ht X.env)
    · refine he.mono _ _ _ _ _ _ (fun eo σ1 h1 ⟨a, fs, e1, e2, l, q1⟩ F1 H1 x f1 r1 => ?_) (fun _ _ _ z => z) q
      subst e1
      obtain ⟨sm, rp⟩ := r1
      cases rp
      obtain ⟨⟨u, eu, Ca', dx, us, n2, rfl, ek, rl⟩, _, _⟩ := sm.hp a _ e2
      rw [A.K, hC] at n2
      cases n2
      exact ⟨a, dx, us, rfl, eu, fs_none ek l, F1, σ1, h1, sm, f1, ha.mono _ _ _ _ _ _ (fun _ _ _ z => z) (fun x σ2 h2 z => z.step f1) q1⟩
    · subst ex
      obtain rfl : u = Value.ref a := rx
      refine getmeth_ok I1 ea hcX hmX l ?_
      refine PySem.W.callWith_K (first := [.ref a]) (h₀ := X.base) I1.ok.mod.kin hmX.kp (thn ((ha.run X W A tk).run pos pins s1 σ H1 (fun vs H2 => ∃ F2 ps σ2 h2, Sm X.K H2 F2 σ2 h2 σ ∧ RpL X.K H2 F2 ps vs ∧ vs.length = k ∧ Fr F H F2 H2 ∧ sp (.ref a :: ps) h2 (fun r h3 => CQ X.K F σ H Q r σ2 h3) (fun x h3 => CE' X.K X.mg F σ H W x σ2 h3)) I1 ⟨F1, σ1, h1, m1, ?_⟩) fun us s2 ⟨vs, H2, I2, r, F2, ps, σ2, h2, m2, rp, hl, f2, q2⟩ => ⟨I2.kIn, ?_⟩) (hst _) (hpl _)
      · refine ha.mono _ _ _ _ _ _ (fun es σ2 h2 ⟨l, q1⟩ F2 H2 vs f2 s2 r2 => ?_) (fun _ _ _ z => z) q1
        obtain ⟨F3, ps, σ3, h3, s3, rl, q3, f3⟩ := shareL_ok s2 r2 q1
        exact ⟨F3, ps, σ3, h3, s3, rl, by rw [← r2.len, l], (f1.trans f2).trans f3, q3⟩
      · obtain ⟨h0, kp⟩ := m2.hs
        refine run_hid (us := .ref a :: us) (vs := .ref a :: vs) (dvs := []) (ds := []) (O := ownA F2 σ2 σ) okX ((A.room hc).mono hle) hbX .nil tk m2.plain I2 (.cons rfl r) ⟨by simp [hl, hn], .ref a :: ps, h2, h0, by rw [List.append_nil]; exact .cons (.ref a) (rp.keep kp), ?_⟩
        exact hid_post (QP := CQ X.K F σ H Q) (EP' := CE' X.K X.mg F σ H W) m2 G.mono q2 (fun r h3 F' H' v q f r => q F' H' v (f2.trans f) (r.early f2.dm)) (fun x h3 F' H' cls d q f s r => q F' H' cls d (f2.trans f) s r)⟩
/-- o.m() -/
theorem je_meth0 (G : FnM S C m 1 sp) (he : JE S o T) (hc : S.calm = true := by rfl) {pl : Env → Sem Bool}
    (ht : ∀ env, eval (.Call (.Attribute o m apos) [] [] pos) env = (do
      let ov ← eval o env
      standAt apos.atName
      let (f, first) ← holding [ov] (getMethod ov m (pl env))
      callWith pos f first (backTo pos (starEach [] env)) (backToKw pos (keywordEach [] env))) := by intro _; rfl) :
    JE S (.Call (.Attribute o m apos) [] [] pos) (wMeth C m 0 sp T wNil) where
  mono := wMeth_mono he.mono (ja_nil (S := S)).mono G.mono
  run := fun X W A tk => ⟨fun pins s σ H Q I q => by
    obtain ⟨F, σp, h, m0, q⟩ := q
    obtain ⟨Ca, f, fd, ps', j, hC, hcl, hm, hb, hle, ok⟩ := G.ex
    have hcX : Cls X.K Ca := by rw [A.K]; exact hcl
    have hmX : Meth X.K Ca m f := by rw [A.K]; exact hm
    have okX : FnOk X.prog X.w X.K X.mg X.base (L2.CX X.prog X.w) j f fd ps' (LF X.K X.mg 1 sp) := by rw [A.P, A.w, A.K, A.mg, A.base]; exact ok
    have hbX : Binds X.K fd ps' [] := by rw [A.K]; exact hb
    refine PySem.W.methodCall_KW (pl := pl X.env) (thn ((he.run X W A tk).run pins s σ H (fun x H1 => ∃ a dx us, x = .ref a ∧ H1 a = some (.ins Ca dx us) ∧ us.lookup m = none ∧ ∃ F1 σ1 h1, Sm X.K H1 F1 σ1 h1 σ ∧ Fr F H F1 H1 ∧
      sp [.ref a] h1 (fun r h4 => CQ X.K F σ H Q r σ1 h4) (fun x h4 => CE' X.K X.mg F σ H W x σ1 h4)) I ⟨F, σp, h, m0, ?_⟩) fun u s1 ⟨x, H1, I1, rx, a, dx, us, ex, ea, l, F1, σ1, h1, m1, f1, q1⟩ => ?_) (ht X.env)
    · refine he.mono _ _ _ _ _ _ (fun eo σ1 h1 ⟨a, fs, e1, e2, l, q1⟩ F1 H1 x f1 r1 => ?_) (fun _ _ _ z => z) q
      subst e1
      obtain ⟨sm, rp⟩ := r1
      cases rp
      obtain ⟨⟨u, eu, Ca', dx, us, n2, rfl, ek, rl⟩, _, _⟩ := sm.hp a _ e2
      rw [A.K, hC] at n2
      cases n2
      obtain ⟨_, q1⟩ := q1
      exact ⟨a, dx, us, rfl, eu, fs_none ek l, F1, σ1, h1, sm, f1, q1⟩
    · subst ex
      obtain rfl : u = Value.ref a := rx
      refine getmeth_ok I1 ea hcX hmX l ?_
      obtain ⟨h0, kp⟩ := m1.hs
      refine PySem.W.callWith_K0 (first := [.ref a]) I1.kIn hmX.kp (run_hid (us := [.ref a]) (vs := [.ref a]) (dvs := []) (ds := []) (O := ownA F1 σ1 σ) okX ((A.room hc).mono hle) hbX .nil tk m1.plain I1 (.cons rfl .nil) ⟨rfl, [.ref a], h1, h0, .cons (.ref a) .nil, ?_⟩)
      exact hid_post (QP := CQ X.K F σ H Q) (EP' := CE' X.K X.mg F σ H W) m1 G.mono q1 (fun r h3 F' H' v q f r => q F' H' v (f1.trans f) (r.early f1.dm)) (fun x h3 F' H' cls d q f s r => q F' H' cls d (f1.trans f) s r)⟩
/-! ### C(..) -/
theorem run_makeW {X : Cx} {k : Nat} {f C : Addr} {fd : FuncData} {ps : List Str} {sp : Sp} {W : WX} {pins : List (Addr × Obj)} {σ : L2.St} {H : Hp} {s : Shared} {Q : VK} {us : List Value} {vs : List V} (M : Mk X.K C f) (F : FnOk X.prog X.w X.K X.mg X.base (L2.CX X.prog X.w) k f fd ps sp) (hr : Room (k + 1) X.A) (hb : Binds X.K fd ps [])
    (tk : Takes X W) (I : Inv X pins σ H s) (r : Vals vs us)
    (h : ∀ x dx, H x = none → H dx = none → dx ≠ x → sp (.ref x :: vs) (upd (upd H dx (.own x)) x (.ins C dx [])) (fun v H2 => v = .non ∧ Q (.ref x) H2) (fun cls d H2 => W cls d σ H2)) :
    wpAny (model X.prog X.w) X.A (call (.ref C) us) (EP X pins σ Q) X.xe s := by
  have hq := h (s.heap.objs.size + 1) s.heap.objs.size (I.hok.fresh (Nat.le_succ _)) (I.hok.fresh (Nat.le_refl _)) (Nat.ne_of_lt (Nat.lt_succ_self _))
  have I2 := Inv.made (C := C) I
  have r2 : Vals (V.ref (s.heap.objs.size + 1) :: vs) (Value.ref (s.heap.objs.size + 1) :: us) := .cons rfl r
  have hl : (Value.ref (s.heap.objs.size + 1) :: us ++ []).length = ps.length := by
    have e := r2.length
    rw [F.len _ _ _ _ hq] at e
    rw [List.append_nil]; exact e.symm
  have hbb := hb _ (Value.ref (s.heap.objs.size + 1) :: us) I2.kIn hl
  rw [List.append_nil] at hbb
  refine wpAny_call (make_map (f := f) I.kIn M.makes M.init (beq_iff_eq.mp M.fn) (codeAny_mono (F.run _ X.stack _ _ ⟨Value.ref (s.heap.objs.size + 1) :: us, []⟩ (Value.ref (s.heap.objs.size + 1) :: us) _ _ _ (hr.make C us [])
    (I2.env0.make C us []) hbb r2 hq) fun r s' hq' => ?_))
  cases r with
  | error e => exact tk e s' (XE.of_call (E := fun c d H => W c d σ H) I2 (fun _ _ _ z => z) hq')
  | ok fl =>
    cases fl with
    | ret u =>
      obtain ⟨v, H', I3, rv, ev, q3⟩ := I2.after hq'
      subst ev
      exact ⟨rv, ⟨V.ref (s.heap.objs.size + 1), H', I3, rfl, q3⟩⟩
    | next => exact False.elim hq'
    | brk => exact False.elim hq'
    | cont => exact False.elim hq'
def wNew (C : Str) (n : Nat) (sp : PSp) (U : WA) : WE := fun σ h Q E => U σ h (fun es σ1 h1 => es.length = n ∧ shareL es σ1 h1 fun ps σ2 h2 => ∀ p, h2 p = none → sp (.ref p :: ps) (updP h2 p (.ins C [])) (fun r h3 => r = .val .non ∧ Q (.val (.ref p)) σ2 h3) (fun x h3 => E x σ2 h3)) E
theorem wNew_mono (mu : Mono U) (ms : MonoF sp) : Mono (wNew C n sp U) := fun σ h Q Q' E E' i j q => mu _ _ _ _ _ _ (fun es σ h ⟨l, q⟩ => ⟨l, shareL_mono (fun ps σ h q p n => ms _ _ _ _ _ _ (fun r h ⟨z, q⟩ => ⟨z, i _ _ _ q⟩) (fun x h q => j _ _ _ q) (q p n)) q⟩) j q
theorem je_new {k : Nat} (G : FnI S C n sp) (ha : JA S (e :: es) U) (hn : k + 1 = n := by rfl) (hc : S.calm = true := by rfl) (hg : S.sc.names.lookup C = some .globalImplicit := by rfl) (hdb : (C == ("__debug__" : Str)) = false := by decide)
    (he : ∀ env, starEach (e :: es) env = (false, eval e env) :: starEach es env := by intro _; rfl) (hpl : ∀ env, (backTo pos (starEach es env)).any (·.1) = false := by intro _; rfl) : JE S (.Call (.Name C p) (e :: es) [] pos) (wNew C k sp U) where
  mono := wNew_mono ha.mono G.mono
  run := fun X W A tk => ⟨fun pins s σ H Q I q => by
    obtain ⟨F, σp, h, m0, q⟩ := q
    obtain ⟨Ca, f, fd, ps', j, hm, hC, hmk, hb, hle, ok⟩ := G.ex
    have hmX : Mk X.K Ca f := by rw [A.K]; exact hmk
    have okX : FnOk X.prog X.w X.K X.mg X.base (L2.CX X.prog X.w) j f fd ps' (LF X.K X.mg n sp) := by rw [A.P, A.w, A.K, A.mg, A.base]; exact ok
    have hbX : Binds X.K fd ps' [] := by rw [A.K]; exact hb
    refine wpAny_Call_Name_kw (ld_glob I (gl_of A hg) (by rw [A.mg]; exact hm) ?_ hdb)
    refine PySem.W.callWith_K (h₀ := X.base) I.ok.mod.kin hmX.kp (thn ((ha.run X W A tk).run pos pins s σ H (fun vs H1 => ∃ F1 ps σ2 h2, Sm X.K H1 F1 σ2 h2 σ ∧ RpL X.K H1 F1 ps vs ∧ vs.length = k ∧ Fr F H F1 H1 ∧ ∀ p, h2 p = none → sp (.ref p :: ps) (updP h2 p (.ins C [])) (fun r h3 => r = .val .non ∧ CQ X.K F σ H Q (.val (.ref p)) σ2 h3) (fun x h3 => CE' X.K X.mg F σ H W x σ2 h3)) I ⟨F, σp, h, m0, ?_⟩) fun us s1 ⟨vs, H1, I1, r, F1, ps, σ2, h2, m2, rp, hl, f1, q2⟩ => ⟨I1.kIn, ?_⟩) (he _) (hpl _)
    · refine ha.mono _ _ _ _ _ _ (fun es σ1 h1 ⟨l, q1⟩ F1 H1 vs f1 s1 r1 => ?_) (fun _ _ _ z => z) q
      obtain ⟨F2, ps, σ2, h2, s2, rl, q2, f2⟩ := shareL_ok s1 r1 q1
      exact ⟨F2, ps, σ2, h2, s2, rl, by rw [← r1.len, l], f1.trans f2, q2⟩
    · refine run_makeW hmX (fnOk_hid okX) ((A.room hc).mono hle) hbX tk I1 r fun x dx nx nd ne => ?_
      have nx' : upd H1 dx (.own x) x = none := by rw [upd_ne (Ne.symm ne)]; exact nx
      have nb : ¬ F1.b x := fun w => by obtain ⟨u, e⟩ := m2.bt x w; rw [nx] at e; cases e
      obtain ⟨m3, hx⟩ := (m2.new (o := .own x) nd).obj (o := .ins C []) (u := .ins Ca dx []) nx' ⟨Ca, dx, [], by rw [A.K]; exact hC, rfl, rfl, .nil⟩ nb
      have f3 : Fr F1 H1 (F1.add x) (upd (upd H1 dx (.own x)) x (.ins Ca dx [])) := (Fr.new nd).trans (Fr.obj nx')
      obtain ⟨h0, kp⟩ := m3.hs
      refine ⟨ownA (F1.add x) σ2 σ, m3.plain, by simp [hl, hn], .ref x :: ps, updP h2 x (.ins C []), h0, .cons (.ref x) ((rp.keep f3.keep).keep kp), ?_⟩
      exact hid_post (QP := fun r _ h3 => r = .val .non ∧ CQ X.K F σ H Q (.val (.ref x)) σ2 h3) (EP' := CE' X.K X.mg F σ H W) (Q := fun v H2 => v = .non ∧ Q (.ref x) H2) m3 G.mono (q2 x hx) (fun r h3 F' H' v ⟨er, q⟩ f r => by
        subst er
        obtain ⟨s4, r4⟩ := r
        cases r4
        exact ⟨rfl, q F' H' _ ((f1.trans f3).trans f) (rsv s4 (.ref x))⟩) (fun x h3 F' H' cls d q f s r => q F' H' cls d ((f1.trans f3).trans f) s r)⟩
theorem je_new0 (G : FnI S C 1 sp) (hc : S.calm = true := by rfl) (hg : S.sc.names.lookup C = some .globalImplicit := by rfl) (hdb : (C == ("__debug__" : Str)) = false := by decide) : JE S (.Call (.Name C p) [] [] pos) (wNew C 0 sp wNil) where
  mono := wNew_mono (ja_nil (S := S)).mono G.mono
  run := fun X W A tk => ⟨fun pins s σ H Q I q => by
    obtain ⟨F, σp, h, m2, _, q2⟩ := q
    obtain ⟨Ca, f, fd, ps', j, hm, hC, hmk, hb, hle, ok⟩ := G.ex
    have hmX : Mk X.K Ca f := by rw [A.K]; exact hmk
    have okX : FnOk X.prog X.w X.K X.mg X.base (L2.CX X.prog X.w) j f fd ps' (LF X.K X.mg 1 sp) := by rw [A.P, A.w, A.K, A.mg, A.base]; exact ok
    have hbX : Binds X.K fd ps' [] := by rw [A.K]; exact hb
    refine wpAny_Call_Name_kw (ld_glob I (gl_of A hg) (by rw [A.mg]; exact hm) ?_ hdb)
    refine PySem.W.callWith_K0 I.kIn hmX.kp (run_makeW (us := []) (vs := []) hmX (fnOk_hid okX) ((A.room hc).mono hle) hbX tk I .nil fun x dx nx nd ne => ?_)
    have nx' : upd H dx (.own x) x = none := by rw [upd_ne (Ne.symm ne)]; exact nx
    have nb : ¬ F.b x := fun w => by obtain ⟨u, e⟩ := m2.bt x w; rw [nx] at e; cases e
    obtain ⟨m3, hx⟩ := (m2.new (o := .own x) nd).obj (o := .ins C []) (u := .ins Ca dx []) nx' ⟨Ca, dx, [], by rw [A.K]; exact hC, rfl, rfl, .nil⟩ nb
    have f3 : Fr F H (F.add x) (upd (upd H dx (.own x)) x (.ins Ca dx [])) := (Fr.new nd).trans (Fr.obj nx')
    obtain ⟨h0, kp⟩ := m3.hs
    refine ⟨ownA (F.add x) σp σ, m3.plain, rfl, [.ref x], updP h x (.ins C []), h0, .cons (.ref x) .nil, ?_⟩
    exact hid_post (QP := fun r _ h3 => r = .val .non ∧ CQ X.K F σ H Q (.val (.ref x)) σp h3) (EP' := CE' X.K X.mg F σ H W) (Q := fun v H2 => v = .non ∧ Q (.ref x) H2) m3 G.mono (q2 x hx) (fun r h3 F' H' v ⟨er, q⟩ f r => by
      subst er
      obtain ⟨s4, r4⟩ := r
      cases r4
      exact ⟨rfl, q F' H' _ (f3.trans f) (rsv s4 (.ref x))⟩) (fun x h3 F' H' cls d q f s r => q F' H' cls d (f3.trans f) s r)⟩
end
end PP
set_option Elab.async false
set_option linter.all false
set_option maxRecDepth 100000
set_option maxHeartbeats 4000000
/-! a new list that is shared and changed; unpacking of lists -/
namespace PP
open PySem PySem.Spec PyProof.Rows L2
def layQ (Q : EV → PSt → PH → Prop) : EV → PSt → PH → Prop
  | .own o, σ, h => ∀ a, h a = none → Q (.val (.ref a)) σ (updP h a o)
  | e, σ, h => Q e σ h
theorem layQ_mono {Q Q' : EV → PSt → PH → Prop} (i : ∀ e σ h, Q e σ h → Q' e σ h) : ∀ {e : EV} {σ : PSt} {h : PH}, layQ Q e σ h → layQ Q' e σ h
  | .own _, _, _, q => fun a n => i _ _ _ (q a n)
  | .val p, _, _, q => i _ _ _ q
  | .bor j, _, _, q => i _ _ _ q
def wLay (T : WE) : WE := fun σ h Q E => T σ h (layQ Q) E
theorem je_lay {S : Sc} {e : Expr} {T : WE} (he : JE S e T) : JE S e (wLay T) where
  mono := fun σ h Q Q' E E' i j q => he.mono _ _ _ _ _ _ (fun ev σ h q => layQ_mono i q) j q
  run := fun X W A tk => by
    refine pe_weak (he.run X W A tk) fun σ H Q q => ?_
    obtain ⟨F, σp, h, s, q⟩ := q
    refine ⟨F, σp, h, s, he.mono _ _ _ _ _ _ (fun ev σ1 h1 q1 F1 H1 v f1 r1 => ?_) (fun _ _ _ z => z) q⟩
    cases ev with
    | val p => exact q1 F1 H1 v f1 r1
    | bor j => exact q1 F1 H1 v f1 r1
    | own o =>
      obtain ⟨a, u, rfl, n, eu, c, sm, z, nw⟩ := r1
      have nb : ¬ F1.b a := fun w => by
        rw [f1.bb] at w
        obtain ⟨u', e'⟩ := s.bt a w
        rw [nw] at e'; cases e'
      obtain ⟨s2, ha⟩ := sm.obj hide_same c nb
      rw [upd_hide eu] at s2
      exact q1 a ha (F1.add a) H1 _ (f1.add nw) (rsv s2 (.ref a))
/-- a, b, .. = a list -/
def gL (n : Nat) (U : WGs) : WG := fun p σ h Q => ∃ xs, vwp h p = .lst xs ∧ xs.length = n ∧ U xs σ h Q
theorem jg_l {S : Sc} {pos : Pos} {es : List Expr} {k n : Nat} {U : WGs} {ix : List Nat} (h : JGs S es ix U) (hc : S.calm = true := by rfl) (hn : ∀ env, (assignEach es env).length = n := by intro _; rfl) (hst : ∀ env, (assignEach es env).findIdx? (·.1) = none := by intro _; rfl) : JG S (.Tuple es k pos) ix (gL n U) where
  mono := fun p σ h' Q Q' i ⟨a, e, l, q⟩ => ⟨a, e, l, h.mono _ _ _ _ _ i q⟩
  run := fun X A => by
    refine pg_weak (pg_lst (A.calm hc) (h.run X A) (hn _) (hst _)) fun v σ H Q q => ?_
    obtain ⟨F, σp, h', p, s, r, ps, e, l, q⟩ := q
    have rt := (show RE X.K F σ H (.val p) v from r).rt s
    have ev : vw σp h' (.val p) = vwp h' p := rfl
    rw [ev, e] at rt
    obtain ⟨a, vs, rfl, z, rl⟩ := rt.lst
    exact ⟨a, vs, rfl, .inl (.inl z), by rw [← rl.length]; exact l, F, σp, h', ps, s, rl, q⟩
end PP
set_option Elab.async false
set_option linter.all false
set_option maxRecDepth 100000
set_option maxHeartbeats 4000000
/-! zip of two sequences, each a list or a tuple -/
namespace PP
open PySem PySem.Spec PyProof.Rows L2
def SqK (k : Bool) (K : PySem.W.Frag) (H : Hp) (a : Addr) (xs : List V) : Prop := match k with | true => SqT K H a xs | false => SqL K H a xs
def ItrK (k : Bool) (h : Heap) (it a : Addr) (i : Nat) : Prop := match k with | true => h.IsTupleIter it a i | false => h.IsListIter it a i
def IsK (k : Bool) (h : Heap) (a : Addr) (its : Array Value) : Prop := match k with | true => h.IsTuple a its | false => h.IsList a its
section
variable {X : Cx} {pins : List (Addr × Obj)} {σ : L2.St} {H : Hp} {s : Shared}
theorem invK {k : Bool} {a : Addr} {xs : List V} (I : Inv X pins σ H s) (h : SqK k X.K H a xs) : ∃ its : List Value, Vals xs its ∧ IsK k s.heap a its.toArray ∧ xs.length ≤ sizeLine := by
  cases k with
  | true => obtain ⟨its, r, p, z⟩ := I.tuple h; exact ⟨its, r, p, z⟩
  | false => obtain ⟨its, r, p, z⟩ := I.list h; exact ⟨its, r, p.isList, z⟩
theorem injK {k : Bool} {a : Addr} {xs ys : List V} (I : Inv X pins σ H s) (h : SqK k X.K H a xs) (h' : SqK k X.K H a ys) : xs = ys := by
  cases k with
  | true => exact I.tuple_inj h h'
  | false => exact I.list_inj h h'
theorem ltK {k : Bool} {h : Heap} {a : Addr} {its : Array Value} (p : IsK k h a its) : a < h.objs.size := by
  cases k with
  | true => obtain ⟨o, e, _⟩ := id p; exact Heap.lt_size e
  | false => obtain ⟨o, e, _⟩ := id p; exact Heap.lt_size e
theorem ItrK.at' {k : Bool} {h h' : Heap} {it a : Addr} {i : Nat} (st : ItrK k h it a i) (q : ∀ o, h.get? it = some o → h'.get? it = some o) : ItrK k h' it a i := by
  cases k with
  | true => exact Heap.IsTupleIter.at st q
  | false => exact Heap.IsListIter.at st q
theorem ItrK.lt {k : Bool} {h : Heap} {it a : Addr} {i : Nat} (st : ItrK k h it a i) : it < h.objs.size := by
  cases k with
  | true => obtain ⟨_, e, _⟩ := id st; exact Heap.lt_size e
  | false => obtain ⟨_, e, _⟩ := id st; exact Heap.lt_size e
theorem drawsK {prog : Program} {w : World} {A : Around} (k : Bool) (hh : A.handled = none) (it l : Addr) (hne : l ≠ it) (items : Array Value) :
    Draws prog w A it [it, l] items.size (fun i v => items[i]? = some v) (fun i h => ItrK k h it l i ∧ IsK k h l items) := by
  cases k with
  | true => exact Draws.tuple hh it l hne items
  | false => exact Draws.list hh it l hne items
end
def ItzK (K : PySem.W.Frag) (k1 k2 : Bool) (a b : Addr) : It :=
  ⟨fun i H => ∃ (xs ys : List V) (x y : V), SqK k1 K H a xs ∧ SqK k2 K H b ys ∧ xs[i]? = some x ∧ ys[i]? = some y,
    fun i H v H' => ∃ T x y, v = .ref T ∧ H T = none ∧ H' = upd H T (.tup [x, y]) ∧ (∀ xs, SqK k1 K H a xs → xs[i]? = some x) ∧ ∀ ys, SqK k2 K H b ys → ys[i]? = some y,
    fun i H => ∃ xs ys : List V, SqK k1 K H a xs ∧ SqK k2 K H b ys ∧ i ≤ xs.length ∧ i ≤ ys.length ∧ (i = xs.length ∨ i = ys.length)⟩
theorem sepK {a b z TI TO i1 i2 : Addr} (D : ZipApart z TI TO i1 i2 a b) : ZipSep2 z TI TO i1 i2 [i1, a] [i2, b] where
  TIz := D.TIz
  TOz := D.TOz
  TITO := D.TITO
  TIi1 := D.TIi1
  mem1 := by simp
  zf1 := by simp [D.i1z.symm, D.l1z.symm]
  Tf1 := by simp [D.TOi1, D.l1TO.symm]
  TIi2 := D.TIi2
  mem2 := by simp
  zf2 := by simp [D.i2z.symm, D.l2z.symm]
  Tf2 := by simp [D.TOi2, D.l2TO.symm]
  sep1_2 := by simp [D.i12, D.l2i1.symm]
  sep2_1 := by simp [D.i12.symm, D.l1i2.symm]
theorem turn_zipK {P : Program} {w : World} {K : PySem.W.Frag} {elts : List Expr} {kk : Nat} {tpos : Pos} {k1 k2 : Bool} {a b z TI TO i1 i2 : Addr} (D : ZipApart z TI TO i1 i2 a b) :
    Turn P w K (.Tuple elts kk tpos) (ItzK K k1 k2 a b) [z, TI, TO, i1, i2] z (fun i h => IsZip h z TI TO .none ∧ IsPair h TI (.ref i1) (.ref i2) ∧ (∃ x y, IsPair h TO x y) ∧ ItrK k1 h i1 a i ∧ ItrK k2 h i2 b i) where
  mem := by simp
  obj := fun i h st c hc => by
    obtain ⟨hz, hTI, ⟨x, y, hTO⟩, h1, h2⟩ := st
    have e' : c = z ∨ c = TI ∨ c = TO ∨ c = i1 ∨ c = i2 := by simpa using hc
    rcases e' with q | q | q | q | q
    · rw [q]; exact ⟨_, hz, fun v q => nomatch q⟩
    · rw [q]; exact ⟨_, hTI, fun v q => nomatch q⟩
    · rw [q]; exact ⟨_, hTO, fun v q => nomatch q⟩
    · rw [q]
      cases k1 with
      | true => obtain ⟨o1, e1, _, d1⟩ := id h1; exact ⟨o1, e1, fun v q => by rw [d1] at q; cases q⟩
      | false => obtain ⟨o1, e1, _, d1⟩ := id h1; exact ⟨o1, e1, fun v q => by rw [d1] at q; cases q⟩
    · rw [q]
      cases k2 with
      | true => obtain ⟨o1, e1, _, d1⟩ := id h2; exact ⟨o1, e1, fun v q => by rw [d1] at q; cases q⟩
      | false => obtain ⟨o1, e1, _, d1⟩ := id h2; exact ⟨o1, e1, fun v q => by rw [d1] at q; cases q⟩
  keep := fun i h h' st k => by
    obtain ⟨hz, hTI, ⟨x, y, hTO⟩, h1, h2⟩ := st
    exact ⟨k z (by simp) _ hz, k TI (by simp) _ hTI, ⟨x, y, k TO (by simp) _ hTO⟩, h1.at' fun o q => k i1 (by simp) o q, h2.at' fun o q => k i2 (by simp) o q⟩
  item := by
    intro X hP hw hK hc i pins s σ H E I hf st hg
    subst hP hw hK
    obtain ⟨hz, hTI, ⟨x0, y0, hTO⟩, h1, h2⟩ := st
    obtain ⟨xs, ys, x, y, hqx, hqy, hx, hy⟩ := hg
    obtain ⟨its, rv, p, _⟩ := invK I hqx
    obtain ⟨its2, rv2, p2, _⟩ := invK I hqy
    obtain ⟨u, hu, ru⟩ := rv.get hx
    obtain ⟨u2, hu2, ru2⟩ := rv2.get hy
    have hzl : z < s.heap.objs.size := Heap.lt_size hz
    have D1 := drawsK (prog := X.prog) (w := X.w) (A := X.A.in1) k1 (by have := I.ok.hd hc; exact this) i1 a D.l1i1 its.toArray
    have D2 := drawsK (prog := X.prog) (w := X.w) (A := X.A.in1) k2 (by have := I.ok.hd hc; exact this) i2 b D.l2i2 its2.toArray
    have b1 : i < its.toArray.size := by have := (List.getElem?_eq_some_iff.mp hu).1; simpa using this
    have b2 : i < its2.toArray.size := by have := (List.getElem?_eq_some_iff.mp hu2).1; simpa using this
    refine wpAny_pyNext_zipD2_item (sepK D) D1 D2 hz hTI hTO ⟨h1, p⟩ ⟨h2, p2⟩ b1 b2 fun v1 v2 h' tk ev1 ev2 z' TO' st1 st2 hT hsz hk => ?_
    obtain rfl : v1 = u := by have q : its[i]? = some v1 := by simpa using ev1
                              rw [hu] at q; cases q; rfl
    obtain rfl : v2 = u2 := by have q : its2[i]? = some v2 := by simpa using ev2
                               rw [hu2] at q; cases q; rfl
    have h1' := st1.1
    have h2' := st2.1
    refine ⟨_, rfl, wpAny_letOwnedTupleGo_zip (s := { s with heap := h', toks := tk }) z' fun h'' z'' sb => ?_⟩
    have hT2 : h''.get? s.heap.objs.size = some { cls := .type "tuple", data := .seq #[v1, v2] } := (sb.2 _ (Nat.ne_of_gt hzl)).trans hT
    have new : ObjOk X.prog X.w (upd H s.heap.objs.size (.tup [x, y])) h'' s.heap.objs.size (.tup [x, y]) :=
      ⟨by show 2 ≤ sizeLine; decide, [v1, v2], .cons ru (.cons ru2 .nil), ⟨_, hT2, rfl, _, rfl⟩⟩
    have I1 : Inv X pins σ (upd H s.heap.objs.size (.tup [x, y])) { s with heap := h'', toks := tk } :=
      I.turnedNew (ch := [z, TI, TO, i1, i2]) (fun c o hb q => (sb.2 c (fun q' => hb (by simp [q']))).trans (hk c o (fun q' => hb (by simp [q'])) (fun q' => hb (by simp [q'])) (fun q' => hb (by simp [q'])) (fun q' => hb (by simp [q'])) q)) hf (Nat.le_refl _) new
    refine ⟨.ref s.heap.objs.size, _, I1, rfl, ⟨_, x, y, rfl, I.hok.fresh (Nat.le_refl _), rfl, fun l hl => by rw [injK I hl hqx]; exact hx, fun l hl => by rw [injK I hl hqy]; exact hy⟩, ⟨z'', ?_, ⟨v1, v2, ?_⟩, ?_, ?_⟩, fun c hcm => ?_⟩
    · exact (sb.2 _ D.TIz).trans (hk _ _ D.TIz D.TITO D.TIi1 D.TIi2 hTI)
    · exact (sb.2 _ D.TOz).trans TO'
    · exact h1'.at' fun o q => (sb.2 _ D.i1z).trans q
    · exact h2'.at' fun o q => (sb.2 _ D.i2z).trans q
    · have hlt : c < s.heap.objs.size := by
        have e' : c = z ∨ c = TI ∨ c = TO ∨ c = i1 ∨ c = i2 := by simpa using hcm
        rcases e' with q | q | q | q | q
        · rw [q]; exact hzl
        · rw [q]; exact Heap.lt_size hTI
        · rw [q]; exact Heap.lt_size hTO
        · rw [q]; exact h1.lt
        · rw [q]; exact h2.lt
      rw [upd_ne (Nat.ne_of_lt hlt)]
      exact (hf c hcm).1
  done := by
    intro X hP hw hK hc i pins s σ H E I hf st hg
    subst hP hw hK
    obtain ⟨hz, hTI, ⟨x0, y0, hTO⟩, h1, h2⟩ := st
    obtain ⟨xs, ys, hqx, hqy, le1, le2, hend⟩ := hg
    obtain ⟨its, rv, p, _⟩ := invK I hqx
    obtain ⟨its2, rv2, p2, _⟩ := invK I hqy
    have l1 := rv.length
    have l2 := rv2.length
    have D1 := drawsK (prog := X.prog) (w := X.w) (A := X.A.in1) k1 (by have := I.ok.hd hc; exact this) i1 a D.l1i1 its.toArray
    have D2 := drawsK (prog := X.prog) (w := X.w) (A := X.A.in1) k2 (by have := I.ok.hd hc; exact this) i2 b D.l2i2 its2.toArray
    exact wpAny_pyNext_zipD2_end (sepK D) D1 D2 hz hTI hTO ⟨h1, p⟩ ⟨h2, p2⟩ (by simp; omega) (by simp; omega) (by simp; omega) fun h' tk hk => ⟨rfl, I.turnedL (ch := [z, TI, TO, i1, i2]) (fun c o hb q =>
      hk c o (fun q' => hb (by simp [q'])) (fun q' => hb (by simp [q'])) (fun q' => hb (by simp [q'])) (fun q' => hb (by simp [q'])) q) hf⟩
  self := fun A i s Q E st h => wpAny_pyIter_zip st.1 h
theorem walk_zipK {K : PySem.W.Frag} {k1 k2 : Bool} {a b : Addr} {xs ys : List V} {n : Nat} (hn : n = min xs.length ys.length) : Walk (ItzK K k1 k2 a b) n (fun H => SqK k1 K H a xs ∧ SqK k2 K H b ys) (YPair (fun i => xs[i]?) (fun i => ys[i]?)) := by
  subst hn
  refine ⟨fun i _ hi q => ?_, fun _ q => ⟨xs, ys, q.1, q.2, by omega, by omega, by omega⟩, fun i H v H' _ q y => ?_⟩
  · have h1 : i < xs.length := by omega
    have h2 : i < ys.length := by omega
    exact ⟨xs, ys, xs[i], ys[i], q.1, q.2, by simp [h1], by simp [h2]⟩
  · obtain ⟨T, x, z, h1, h2, h3, h4, h5⟩ := y
    exact ⟨T, x, z, h1, h2, h3, h4 xs q.1, h5 ys q.2⟩
def itO (k : Bool) (a : Addr) : Obj := match k with | true => { cls := .type "tuple_iterator", data := .fields #[.ref a, .int 0 0] } | false => { cls := .type "list_iterator", data := .fields #[.ref a, .int 0 0] }
theorem beginsK (k : Bool) (a : Addr) (its : Array Value) : Begins (.ref a) (itO k a) fun h => IsK k h a its := by
  cases k with
  | true => exact begins_tuple a its
  | false => exact begins_list a its
theorem itr0K {k : Bool} {h : Heap} {it a : Addr} (e : h.get? it = some (itO k a)) : ItrK k h it a 0 := by
  cases k with
  | true => exact ⟨_, e, rfl, rfl⟩
  | false => exact ⟨_, e, rfl, rfl⟩
def iZipK (K : PySem.W.Frag) (ta : TA) : TI := fun σ H R => ta σ H fun vs H1 => ∃ a b xs ys k1 k2, vs = [.ref a, .ref b] ∧ SqK k1 K H1 a xs ∧ SqK k2 K H1 b ys ∧ R (ItzK K k1 k2 a b) H1
theorem pi_zipK {X : Cx} {e e2 : Expr} {ta : TA} {p pos tpos : Pos} {elts : List Expr} {kk : Nat} (hg : Gl X "zip") (hm : X.mg "zip" = none) (ha : PA X [e, e2] ta)
    (hs : starEach [e, e2] X.env = (false, eval e X.env) :: starEach [e2] X.env := by rfl) (hpl : (backTo pos (starEach [e2] X.env)).any (·.1) = false := by rfl) :
    PI X (.Tuple elts kk tpos) (.Call (.Name "zip" p) [e, e2] [] pos) (iZipK X.K ta) := by
  refine ⟨fun pins s σ H R I h => ?_⟩
  refine Call_ (ld_blt I hg hm PyProof.Rows.boot_zip (PyProof.Rows.callWith_type1 (thn (ha.run pos pins s σ H _ I h) fun us s1 ⟨vs, H1, I1, r1, q1⟩ => ?_) hs hpl))
  obtain ⟨a, b, xs, ys, k1, k2, ex, hqx, hqy, q⟩ := q1
  subst ex
  cases r1 with
  | cons r rr =>
    cases rr with
    | cons r' rr =>
      cases rr
      cases r
      cases r'
      have fresh5 : ∀ c, c ∈ [s1.heap.objs.size + 4, s1.heap.objs.size + 2, s1.heap.objs.size + 3, s1.heap.objs.size, s1.heap.objs.size + 1] → FpOk X pins H1 c := fun c hcm => by
        have e' : c = s1.heap.objs.size + 4 ∨ c = s1.heap.objs.size + 2 ∨ c = s1.heap.objs.size + 3 ∨ c = s1.heap.objs.size ∨ c = s1.heap.objs.size + 1 := by simpa using hcm
        have hle : s1.heap.objs.size ≤ c := by
          rcases e' with z | z | z | z | z
          · rw [z]; exact Nat.le_add_right _ _
          · rw [z]; exact Nat.le_add_right _ _
          · rw [z]; exact Nat.le_add_right _ _
          · rw [z]; exact Nat.le_refl _
          · rw [z]; exact Nat.le_add_right _ _
        exact I1.fpOk hle (I1.hok.fresh hle)
      obtain ⟨its, rv, p1, _⟩ := invK I1 hqx
      obtain ⟨its2, rv2, p2, _⟩ := invK I1 hqy
      refine zip_begins2 (beginsK k1 a its.toArray) (beginsK k2 b its2.toArray) p1 p2 fun h' hz hTI hTO h1 h2 hsz hk => wpAny_pyIter_zip hz ?_
      have I2 : Inv X pins σ H1 { s1 with heap := h' } := I1.kept (t' := s1.toks) hk
      exact ⟨s1.heap.objs.size + 4, [s1.heap.objs.size + 4, s1.heap.objs.size + 2, s1.heap.objs.size + 3, s1.heap.objs.size, s1.heap.objs.size + 1], _, _, H1, rfl, I2, turn_zipK (PySem.W.ktu_apart s1.heap.objs.size a b (ltK p1) (ltK p2)), ⟨hz, hTI, ⟨_, _, hTO⟩, itr0K h1, itr0K h2⟩, fresh5, q⟩
/-! ### as lists of plain values -/
def zipP : List PV → List PV → List PV
  | x :: xs, y :: ys => .tup [x, y] :: zipP xs ys
  | _, _ => []
theorem zipP_len : ∀ (xs ys : List PV), (zipP xs ys).length = min xs.length ys.length
  | [], _ => by simp [zipP]
  | _ :: _, [] => by simp [zipP]
  | x :: xs, y :: ys => by rw [zipP, List.length_cons, zipP_len xs ys, List.length_cons, List.length_cons]; omega
theorem zipP_get : ∀ (xs ys : List PV) (j : Nat) {p : PV}, (zipP xs ys)[j]? = some p → ∃ x y, xs[j]? = some x ∧ ys[j]? = some y ∧ p = .tup [x, y]
  | [], _, _, _, e => by simp [zipP] at e
  | _ :: _, [], _, _, e => by simp [zipP] at e
  | x :: xs, y :: ys, 0, p, e => by simp [zipP] at e; exact ⟨x, y, rfl, rfl, e.symm⟩
  | x :: xs, y :: ys, j + 1, p, e => by
    obtain ⟨x', y', a, b, c⟩ := zipP_get xs ys j (p := p) (by simpa [zipP] using e)
    exact ⟨x', y', by simpa using a, by simpa using b, c⟩
section
variable {K : PySem.W.Frag} {F : Addr → Prop} {σ : L2.St} {H : Hp}
theorem WalkOk.zip {ps qs : List PV} {vs us : List V} {J : It} {G : Hp → Prop} (r : RpL K H F ps vs) (r2 : RpL K H F qs us) (k : ∀ F2 H2, Keep F H F2 H2 → G H2) (w : Walk J (min vs.length us.length) G (YPair (fun i => vs[i]?) (fun i => us[i]?))) : WalkOk K F H (zipP ps qs) J :=
  ⟨G, YPair (fun i => vs[i]?) (fun i => us[i]?), by rw [zipP_len, r.length, r2.length]; exact w, k, fun F2 H2 i x H3 p kp fin ⟨T, y, z, e, n, e2, ey, ez⟩ ep => by
    obtain ⟨q, q2, eq, eq2, rfl⟩ := zipP_get ps qs i ep
    obtain ⟨v, ev, rv⟩ := (r.keep kp).get eq
    obtain ⟨v2, ev2, rv2⟩ := (r2.keep kp).get eq2
    have ey : vs[i]? = some y := ey
    have ez : us[i]? = some z := ez
    obtain rfl : v = y := by rw [ev] at ey; exact Option.some.inj ey
    obtain rfl : v2 = z := by rw [ev2] at ez; exact Option.some.inj ez
    subst e e2
    refine ⟨.inr ⟨T, _, n, rfl⟩, .tup (vs := [v, v2]) (.inl ⟨upd_same, fun f => ?_⟩) (.cons (rv.keep (.new n)) (.cons (rv2.keep (.new n)) .nil))⟩
    obtain ⟨u, eu⟩ := fin T f
    rw [n] at eu; cases eu⟩
theorem Rp.seqK {p : PV} {v : V} {ps : List PV} (r : Rp K H F p v) (e : seqOf p = some ps) : ∃ a vs k, v = .ref a ∧ RpL K H F ps vs ∧ ∀ F2 H2, Keep F H F2 H2 → SqK k K H2 a vs := by
  obtain ⟨a, vs, ev, rl, z⟩ := r.seqF e
  rcases z with ⟨_, z⟩ | ⟨_, z⟩
  · exact ⟨a, vs, false, ev, rl, z⟩
  · exact ⟨a, vs, true, ev, rl, z⟩
end
section
variable {S : Sc} {U : WA} {p pos : Pos}
/-- zip(xs, ys) -/
def wZip (U : WA) : WI := fun σ h Q E => U σ h (fun es σ1 h1 => shareL es σ1 h1 fun ps σ2 h2 => ∃ p q xs ys, ps = [p, q] ∧ seqOf p = some xs ∧ seqOf q = some ys ∧ Q (zipP xs ys) σ2 h2) E
theorem ji_zip {a b : Expr} {elts : List Expr} {kk : Nat} {tpos : Pos} (hm : S.mg "zip" = none) (ha : JA S [a, b] U) (hg : S.sc.names.lookup ("zip" : Str) = some .globalImplicit := by rfl) (hs : ∀ env, starEach [a, b] env = (false, eval a env) :: starEach [b] env := by intro _; rfl) (hpl : ∀ env, (backTo pos (starEach [b] env)).any (·.1) = false := by intro _; rfl) : JI S (.Tuple elts kk tpos) (.Call (.Name "zip" p) [a, b] [] pos) (wZip U) where
  mono := fun σ h Q Q' E E' i j q => ha.mono _ _ _ _ _ _ (fun e σ h q => shareL_mono (fun ps σ h ⟨p, q, xs, ys, e1, e2, e3, z⟩ => ⟨p, q, xs, ys, e1, e2, e3, i _ _ _ z⟩) q) j q
  run := fun X W A tk => by
    refine pi_weak (pi_zipK (gl_of A hg) (by rw [A.mg]; exact hm) (ha.run X W A tk) (hs _) (hpl _)) fun σ H R q => ?_
    obtain ⟨F, σp, h', s, q⟩ := q
    refine ⟨F, σp, h', s, ha.mono _ _ _ _ _ _ (fun es σ1 h1 q1 F1 H1 vs f1 s1 r1 => ?_) (fun _ _ _ z => z) q⟩
    obtain ⟨F2, ps, σ2, h2, s2, rl, ⟨p, q, xs, ys, e1, e2, e3, q2⟩, f2⟩ := shareL_ok s1 r1 q1
    subst e1
    cases rl with
    | cons rp rn =>
      cases rn with
      | cons rq rn =>
        cases rn
        obtain ⟨a, vs, k1, rfl, rl, z⟩ := rp.seqK e2
        obtain ⟨b, us, k2, rfl, rl2, z2⟩ := rq.seqK e3
        exact ⟨a, b, vs, us, k1, k2, rfl, z _ _ .refl, z2 _ _ .refl, q2 F2 H1 _ (f1.trans f2) s2 (.zip rl rl2 (fun _ _ kp => ⟨z _ _ kp, z2 _ _ kp⟩) (walk_zipK rfl))⟩
end
end PP
set_option Elab.async false
set_option linter.all false
set_option maxRecDepth 100000
set_option maxHeartbeats 4000000
/-! xs[::-1] of lists and tuples -/
namespace PyProof.Rows
open PySem PySem.Spec
section
variable {prog : Program} {w : World} {A : Around} {E : Value → Shared → Prop} {s : Shared}
theorem adjust_rev (n : Nat) : Builtin.Slice.sliceAdjust none none (-1) (n : Int) = ((n : Int) - 1, -1) := by
  unfold Builtin.Slice.sliceAdjust
  simp
theorem places_rev (n : Nat) : Builtin.Slice.slicePlaces ((n : Int) - 1) (-1) (-1) = n := by
  unfold Builtin.Slice.slicePlaces
  rw [if_neg (by omega)]
  have e : -(-1 : Int) = 1 := by omega
  rw [e, Int.ediv_one]
  split <;> omega
theorem pick_rev (xs : Array Value) : ((List.range xs.size).filterMap fun (k : Nat) => xs[((xs.size : Int) - 1 + (k : Int) * (-1)).toNat]?).toArray = xs.toList.reverse.toArray := by
  have e : (List.range xs.size).filterMap (fun (k : Nat) => xs[((xs.size : Int) - 1 + (k : Int) * (-1)).toNat]?) = ((List.range xs.size).map fun k => xs.size - 1 - k).filterMap (xs[·]?) := by
    rw [List.filterMap_map]
    congr 1
    funext k
    show xs[((xs.size : Int) - 1 + (k : Int) * (-1)).toNat]? = xs[xs.size - 1 - k]?
    have : ((xs.size : Int) - 1 + (k : Int) * (-1)).toNat = xs.size - 1 - k := by omega
    rw [this]
  rw [e, PySem.W.krv_range, List.filterMap_reverse, PySem.W.krv_all]
theorem sliceApplied_rev {sl : Addr} {n : Nat} {u : Tok} {Q : Int × Int × Nat → Shared → Prop} (hs : s.heap.IsSliceOf sl .none .none (.int (-1) u)) (h : Q ((n : Int) - 1, -1, n) s) :
    wpAny (model prog w) A (Builtin.Slice.sliceApplied (.ref sl) (pure (n : Int))) Q E s := by
  obtain ⟨os, hos, hcs, hds⟩ := id hs
  unfold Builtin.Slice.sliceApplied Builtin.Slice.sliceFields
  refine wpAny_bind (wpAny_bind (wpAny_field hos hds (x := .none) rfl (wpAny_bind (wpAny_field hos hds (x := .none) rfl (wpAny_bind (wpAny_field hos hds (x := .int (-1) u) rfl (wpAny_pure ?_)))))))
  refine wpAny_bind (slicePart_int ?_)
  show wpAny _ _ (if ((-1 : Int) == 0) = true then _ else _) _ _ s
  rw [if_neg (by decide)]
  refine wpAny_bind (slicePart_none (wpAny_bind (slicePart_none (wpAny_bind (wpAny_pure ?_)))))
  show wpAny _ _ (match Builtin.Slice.sliceAdjust none none (-1) (n : Int) with | (lo, hi) => pure (lo, (-1 : Int), Builtin.Slice.slicePlaces lo hi (-1))) _ _ s
  rw [adjust_rev n]
  show wpAny _ _ (pure ((n : Int) - 1, (-1 : Int), Builtin.Slice.slicePlaces ((n : Int) - 1) (-1) (-1))) _ _ s
  rw [places_rev n]
  exact wpAny_pure h
theorem getItem_tuple_rev {t sl : Addr} {items : Array Value} {u : Tok} {Q : Value → Shared → Prop} (ht : IsTup s.heap t items) (hs : s.heap.IsSliceOf sl .none .none (.int (-1) u))
    (h : Q (.ref s.heap.objs.size) { s with heap := s.heap.push { cls := .type "tuple", data := .seq items.toList.reverse.toArray } })
    (hsz : items.size ≤ sizeLine) : wpAny (model prog w) A (getItem (.ref t) (.ref sl)) Q E s := by
  have hdrop : sizeOk (.seq items.toList.reverse.toArray) := by
    show items.toList.reverse.toArray.size ≤ sizeLine
    simp; exact hsz
  obtain ⟨os, hos, hcs, hds⟩ := id hs
  have hTs : s.TypeIs (.ref sl) "slice" := ⟨os, hos, hcs⟩
  unfold getItem
  try with_reducible refine wpAny_holding ?_
  first | refine wpAny_bind (wpAny_pure ?_) | skip
  refine wpAny_bind (wpAny_sequenceKey ht.typeIs (by decide) ?_)
  refine wpAny_bind (wpAny_callSpecial?_slot (name := Str.ofString "__getitem__") ht.typeIs PyProof.Rows.slot_tuple_getitem
    (wpAny_call_entry PyProof.Rows.slot_tuple_getitem ht.typeIs entry_tuple_getitem ?_ (args_tuple_getitem _ _)))
  show wpAny _ _ (Builtin.Tuple.tupleItemsOf (.ref t) >>= _) _ _ s
  refine wpAny_bind (tupleItemsOf_ ht ?_)
  refine wpAny_bind (wpAny_typeOf hTs ?_)
  rw [if_pos (by decide)]
  refine wpAny_bind (sliceApplied_rev hs ?_)
  have hno : ¬ ((((items.size : Int) - 1) == 0 && (-1 : Int) == 1 && items.size == items.size) = true) := by simp
  show wpAny _ _ (if (((items.size : Int) - 1) == 0 && (-1 : Int) == 1 && items.size == items.size) = true then _ else _) _ _ s
  rw [if_neg hno, pick_rev items]
  first
    | exact wpAny_bind (m := Builtin.Tuple.tupleExact _) (wpAny_newObj_type (wpAny_pure ⟨_, rfl, wpAny_pure h⟩) hdrop)
    | exact wpAny_bind (m := Builtin.Tuple.tupleExact _) (wpAny_newObj_type (wpAny_bind (wpAny_pure (wpAny_pure ⟨_, rfl, wpAny_pure h⟩))) hdrop)
    | exact wpAny_bind (wpAny_bind (m := Builtin.Tuple.tupleExact _) (wpAny_newObj_type (wpAny_pure (wpAny_pure ⟨_, rfl, wpAny_pure h⟩)) hdrop))
    | exact wpAny_bind (wpAny_bind (m := Builtin.Tuple.tupleExact _) (wpAny_newObj_type (wpAny_pure ⟨_, rfl, wpAny_pure h⟩) hdrop))
end
end PyProof.Rows
namespace PP
open PySem PySem.Spec PyProof.Rows L2
def tRevK (K : PySem.W.Frag) (te : TE) : TE := fun σ H Q => te σ H fun x H1 => ∃ a xs k, x = .ref a ∧ SqK k K H1 a xs ∧ ∀ p, H1 p = none → Q (.ref p) (upd H1 p (match k with | true => .tup xs.reverse | false => .lst xs.reverse))
theorem pe_revK {X : Cx} {e : Expr} {te : TE} {k : Nat} {p1 p2 p3 pos : Pos} (he : PE X e te) : PE X (.Subscript e (.Slice none none (some (.UnaryOp .USub (.Constant (.int 1) k p1) p2)) p3) pos) (tRevK X.K te) := by
  refine ⟨fun pins s σ H Q I h => ?_⟩
  refine Subscript_ (thn (he.run pins s σ H _ I h) fun v s1 ⟨x, H1, I1, r1, q1⟩ => ?_)
  obtain ⟨a, xs, kd, ex, hx, q⟩ := q1
  subst ex
  cases r1
  have hst : L2.PO X (some (.UnaryOp .USub (.Constant (.int 1) k p1) p2)) (tPart (tUn (rU fun i => .int (-i)) (tC (.int 1)))) := po_some (pe_un un_neg pe_int)
  refine wpAny_Slice (thn (po_none.run pins s1 σ H1 (fun o H2 => o = none ∧ H2 = H1) I1 ⟨rfl, rfl⟩) fun vl s2 ⟨l, H2, I2, pl, el, e2⟩ => ?_)
  subst el e2
  refine thn (po_none.run pins s2 σ H2 (fun o H3 => o = none ∧ H3 = H2) I2 ⟨rfl, rfl⟩) fun vu s3 ⟨u, H3, I3, pu, eu, e3⟩ => ?_
  subst eu e3
  refine thn (hst.run pins s3 σ H3 (fun o H4 => o = some (-1) ∧ H4 = H3) I3 ⟨1, rfl, -1, rfl, rfl, rfl⟩) fun vs s4 ⟨o, H4, I4, ps, eo, e4⟩ => ?_
  subst eo e4
  have I5 : Inv X pins σ H4 { s4 with heap := s4.heap.push { cls := .type "slice", data := .fields #[vl, vu, vs] } } := I4.kept (t' := s4.toks) fun b ob q => Heap.get?_push_of_some _ q
  show wpAny (model X.prog X.w) X.A (subscriptTail e (.Slice none none (some (.UnaryOp .USub (.Constant (.int 1) k p1) p2)) p3) (.ref a) (.ref s4.heap.objs.size)) (EP X pins σ Q) X.xe { s4 with heap := s4.heap.push { cls := .type "slice", data := .fields #[vl, vu, vs] } }
  cases kd with
  | false =>
    obtain ⟨its, r, ht, hz⟩ := I5.list hx
    have hlen := r.length
    refine tail_any (ops := [.ref a, .ref s4.heap.objs.size]) ht.isList.typeIs (PySem.slot_list_getitem.lookup) ?_ (by with_unfolding_all rfl)
    refine wpAny_getItem_list_slice ht.isList (Heap.IsSliceOf.new _ vl vu vs) pl pu ps (by decide) ?_ (by rw [List.size_toArray]; omega)
    rw [PySem.W.krv_pick]
    refine ⟨.ref _, _, I5.laid (t' := s4.toks) (o := .lst xs.reverse) (fun b ob q => Heap.get?_push_of_some _ q) (Nat.le_refl _) ?_, rfl, q _ (I5.hok.fresh (Nat.le_refl _))⟩
    exact ⟨by rw [List.length_reverse]; exact hz, _, 0, r.reverse, Heap.get?_push_size _ rfl⟩
  | true =>
    obtain ⟨its, r, ht, hz⟩ := I5.tuple hx
    have hlen := r.length
    cases pl
    cases pu
    cases ps with
    | int i t =>
    refine tail_any (ops := [.ref a, .ref s4.heap.objs.size]) ht.typeIs PyProof.Rows.slot_tuple_getitem.lookup ?_ (by with_unfolding_all rfl)
    refine getItem_tuple_rev ht (Heap.IsSliceOf.new _ _ _ _) ?_ (by rw [List.size_toArray]; omega)
    refine ⟨.ref _, _, I5.laid (t' := s4.toks) (o := .tup xs.reverse) (fun b ob q => Heap.get?_push_of_some _ q) (Nat.le_refl _) ?_, rfl, q _ (I5.hok.fresh (Nat.le_refl _))⟩
    exact ⟨by rw [List.length_reverse]; exact hz, _, r.reverse, ⟨_, Heap.get?_push_size _ rfl, rfl, 0, rfl⟩⟩
end PP
set_option Elab.async false
set_option linter.all false
set_option maxRecDepth 100000
set_option maxHeartbeats 4000000
namespace PP
open PySem PySem.Spec PyProof.Rows L2
/-! ### what grows under way -/
structure FrD (D : Addr) (F : Ft) (H : Hp) (F' : Ft) (H' : Hp) : Prop where
  zz : F'.z = F.z
  bb : F'.b = F.b
  st : ∀ a o, H a = some o → ¬ F a ∨ (F.z a ∧ a ≠ D) → H' a = some o
  nw : ∀ a, F' a → F a ∨ H a = none
  dm : ∀ a, H' a = none → H a = none
section
variable {D : Addr} {F F1 F2 : Ft} {H H1 H2 : Hp}
theorem FrD.refl : FrD D F H F H := ⟨rfl, rfl, fun _ _ e _ => e, fun _ z => .inl z, fun _ z => z⟩
theorem Fr.toD (f : Fr F H F1 H1) : FrD D F H F1 H1 := ⟨f.zz, f.bb, fun a o e n => f.st a o e (n.imp_right (·.1)), f.nw, f.dm⟩
theorem FrD.trans (a : FrD D F H F1 H1) (b : FrD D F1 H1 F2 H2) : FrD D F H F2 H2 := by
  have n1 : ∀ x o, H x = some o → ¬ F x → ¬ F1 x := fun x o e n z => by
    rcases a.nw x z with z | z
    · exact n z
    · rw [e] at z; cases z
  refine ⟨b.zz.trans a.zz, b.bb.trans a.bb, fun x o e n => b.st x o (a.st x o e n) (n.imp (n1 x o e) (by rw [a.zz]; exact fun z => z)), fun x z => ?_, fun x z => a.dm x (b.dm x z)⟩
  rcases b.nw x z with z | z
  · exact a.nw x z
  · exact .inr (a.dm x z)
theorem FrD.keep (a : FrD D F H F1 H1) : Keep F H F1 H1 := fun x o e n => ⟨a.st x o e (.inl n), fun z => by
  rcases a.nw x z with z | z
  · exact n z
  · rw [e] at z; cases z⟩
theorem FrD.grow {u : HO} (fD : F D) : FrD D F H F (upd H D u) := ⟨rfl, rfl, fun a o e n => by
  rw [upd_ne]
  · exact e
  · rcases n with n | n
    · exact fun q => n (by rw [q]; exact fD)
    · exact n.2, fun _ z => .inl z, fun _ z => upd_none z⟩
end
theorem WalkOk.at {K : PySem.W.Frag} {F F' : Addr → Prop} {H H' : Hp} {ps : List PV} {J : It} (w : WalkOk K F H ps J) (k : Keep F H F' H') : WalkOk K F' H' ps J := by
  obtain ⟨G, Y, a, b, c⟩ := w
  have t : ∀ {F2 : Addr → Prop} {H2 : Hp}, Keep F' H' F2 H2 → Keep F H F2 H2 := fun k2 x o e n => k2 x o (k x o e n).1 (k x o e n).2
  exact ⟨G, Y, a, fun F2 H2 k2 => b F2 H2 (t k2), fun F2 H2 i x H3 p k2 => c F2 H2 i x H3 p (t k2)⟩
theorem Sm.addO {K : PySem.W.Frag} {H : Hp} {F : Ft} {σp : PSt} {h : PH} {σ : L2.St} (S : Sm K H F σp h σ) {D : Addr} (n : H D = none) (ys : ZO) : Sm K (upd H D (zo ys)) ⟨fun b => F b ∨ b = D, fun b => F.z b ∨ b = D, F.b⟩ σp h σ ∧ Keep F H (fun b => F b ∨ b = D) (upd H D (zo ys)) := by
  have hne : ∀ b u, H b = some u → b ≠ D := fun b u e z => by rw [z, n] at e; cases e
  have kp : Keep F H (fun b => F b ∨ b = D) (upd H D (zo ys)) := fun b u e nf => ⟨by rw [upd_ne (hne b u e)]; exact e, fun z => z.elim nf (hne b u e)⟩
  have fD : ¬ F D := S.nf n
  have oth : ∀ b u, H b = some u → upd H D (zo ys) b = some u := fun b u e => by rw [upd_ne (hne b u e)]; exact e
  refine ⟨⟨fun i p e => ?_, fun i o e => ?_, S.sep, fun a o e => ?_, S.len, fun a f => ?_, fun a z => ?_, fun a z => let ⟨u, e⟩ := S.bt a z; ⟨u, oth a u e⟩⟩, kp⟩
  · obtain ⟨v, a, r⟩ := S.val i p e; exact ⟨v, a, r.keep kp⟩
  · obtain ⟨a, b, r, f, c, d, z, nb⟩ := S.own i o e
    exact ⟨a, b, r.keep kp (fun u => oth a u), .inl f, c, d, fun q => q.elim z fun q => fD (q ▸ f), nb⟩
  · obtain ⟨r, f, z⟩ := S.hp a o e
    exact ⟨r.keep kp (fun u => oth a u), .inl f, fun q => q.elim z fun q => fD (q ▸ f)⟩
  · rcases f with f | rfl
    · obtain ⟨u, e⟩ := S.fin a f; exact ⟨u, oth a u e⟩
    · exact ⟨_, upd_same⟩
  · rcases z with z | rfl
    · obtain ⟨f, xs, e⟩ := S.zf a z; exact ⟨.inl f, xs, oth a _ e⟩
    · exact ⟨.inr rfl, ys, upd_same⟩
theorem Sm.growO {K : PySem.W.Frag} {H : Hp} {F : Ft} {σp : PSt} {h : PH} {σ : L2.St} (S : Sm K H F σp h σ) {D : Addr} {ys : ZO} (z : F.z D) : Sm K (upd H D (zo ys)) F σp h σ ∧ Keep F H F (upd H D (zo ys)) := by
  have fD := (S.zf D z).1
  have kp : Keep F H F (upd H D (zo ys)) := fun b u e nf => ⟨by rw [upd_ne fun q => nf (by rw [q]; exact fD)]; exact e, nf⟩
  have oth : ∀ b u, ¬ F.z b → H b = some u → upd H D (zo ys) b = some u := fun b u n e => by rw [upd_ne fun q => n (by rw [q]; exact z)]; exact e
  refine ⟨⟨fun i p e => ?_, fun i o e => ?_, S.sep, fun a o e => ?_, S.len, fun a f => ?_, fun a w => ?_, fun a w => ?_⟩, kp⟩
  · obtain ⟨v, a, r⟩ := S.val i p e; exact ⟨v, a, r.keep kp⟩
  · obtain ⟨a, b, r, f, c, d, w, nb⟩ := S.own i o e
    exact ⟨a, b, r.keep kp (fun u => oth a u w), f, c, d, w, nb⟩
  · obtain ⟨r, f, w⟩ := S.hp a o e
    exact ⟨r.keep kp (fun u => oth a u w), f, w⟩
  · by_cases q : a = D
    · subst q; exact ⟨_, upd_same⟩
    · obtain ⟨u, e⟩ := S.fin a f; exact ⟨u, by rw [upd_ne q]; exact e⟩
  · obtain ⟨f, xs, e⟩ := S.zf a w
    by_cases q : a = D
    · subst q; exact ⟨f, ys, upd_same⟩
    · exact ⟨f, xs, by rw [upd_ne q]; exact e⟩
  · obtain ⟨u, e⟩ := S.bt a w
    by_cases q : a = D
    · subst q; exact ⟨_, upd_same⟩
    · exact ⟨u, by rw [upd_ne q]; exact e⟩
/-- what D holds stands for a row, and how it grows -/
structure Box (K : PySem.W.Frag) (D : Addr) where
  rel : Hp → (Addr → Prop) → List PV → ZO → Prop
  keep : ∀ {H H' : Hp} {F F' : Addr → Prop} {acc : List PV} {u : ZO}, Keep F H F' H' → rel H F acc u → rel H' F' acc u
  kp : PV → Prop
  post : V → Hp → (Hp → Prop) → Prop
  grow : ∀ {H : Hp} {F : Addr → Prop} {acc : List PV} {u : ZO} {p : PV} {v : V}, H D = some (zo u) → rel H F acc u → Rp K H F p v → kp p → acc.length < sizeLine → ∃ u', (∀ Nx : Hp → Prop, Nx (upd H D (zo u')) → post v H Nx) ∧ rel H F (acc ++ [p]) u'
def ke (kp : PV → Prop) : EV → Prop
  | .val p => kp p
  | _ => ∀ p, kp p
abbrev EBT := List PV → PSt → PH → (List PV → PSt → PH → Prop) → Prop
def stG (tgt : WG) (cond : WT) (EB : EBT) (x : PV) (acc : List PV) (σ : PSt) (h : PH) (N : List PV → PSt → PH → Prop) : Prop :=
  tgt x σ h fun σ1 h1 => cond σ1 h1 (fun b σ2 h2 => if b = true then EB acc σ2 h2 N else N acc σ2 h2) (fun _ _ _ => False)
def goG (tgt : WG) (cond : WT) (EB : EBT) (vs : List Nat) : List PV → List PV → PSt → PH → (List PV → PSt → PH → Prop) → Prop
  | [], acc, σ, h, Q => Q acc σ h
  | x :: xs, acc, σ, h, Q => stG tgt cond EB x acc σ h fun acc' σ' h' => goG tgt cond EB vs xs acc' (wipeP σ' vs) h' Q
/-- one item is added -/
def ebL (elt : WE) : EBT := fun acc σ h N => elt σ h (fun e σ3 h3 => share e σ3 h3 fun p σ4 h4 => acc.length < sizeLine ∧ N (acc ++ [p]) σ4 h4) (fun _ _ _ => False)
theorem lcGo_goG {tgt : WG} {cond : WT} {elt : WE} {vs : List Nat} : ∀ {xs acc : List PV} {σ : PSt} {h : PH} {Q : List PV → PSt → PH → Prop}, lcGo tgt cond elt vs xs acc σ h Q = goG tgt cond (ebL elt) vs xs acc σ h Q
  | [], acc, σ, h, Q => rfl
  | x :: xs, acc, σ, h, Q => by
    rw [lcGo, goG]
    have : (fun acc' σ' h' => lcGo tgt cond elt vs xs acc' (wipeP σ' vs) h' Q) = fun acc' σ' h' => goG tgt cond (ebL elt) vs xs acc' (wipeP σ' vs) h' Q := by
      funext a b c; exact lcGo_goG
    rw [this]; rfl
section
variable {X : Cx} {D : Addr} {B : Box X.K D} {tgt : WG} {cond : WT} {EB : EBT} {ix vs : List Nat} {TB : L2.St → Hp → (Hp → Prop) → Prop}
def BodyOk (B : Box X.K D) (EB : EBT) (vs : List Nat) (TB : L2.St → Hp → (Hp → Prop) → Prop) : Prop :=
  ∀ (F5 : Ft) (H5 : Hp) (σ5 : PSt) (h5 : PH) (τ : L2.St) (acc : List PV) (u : ZO) (N : List PV → PSt → PH → Prop) (Nx : Hp → Prop), Sm X.K H5 F5 σ5 h5 τ → F5.z D → H5 D = some (zo u) → B.rel H5 F5 acc u → EB acc σ5 h5 N →
    (∀ F' H' σ' h' acc' u' τ', FrD D F5 H5 F' H' → Sm X.K H' F' σ' h' τ' → L2.wipe τ' vs = L2.wipe τ vs → H' D = some (zo u') → B.rel H' F' acc' u' → N acc' σ' h' → Nx H') → TB τ H5 Nx
def Turns (X : Cx) (J : It) (ix vs : List Nat) (tgt : WG) (cond : WT) (TB : L2.St → Hp → (Hp → Prop) → Prop) (σ : L2.St) (H0 : Hp) (Fin : Hp → Prop) : Prop :=
  ∃ W : Nat → Nat → Hp → Prop, (∃ m, W 0 m H0) ∧ ∀ i m H, W i m H → (J.stop i H ∧ Fin H) ∨ (J.go i H ∧ ∃ Nx : Hp → Prop, (∀ H', Nx H' → ∃ m', m' < m ∧ W (i + 1) m' H') ∧ ∀ x H', J.yld i H x H' → LG X.K ix tgt x (L2.wipe σ vs) H' fun σ2 H2 => L2.wipe σ2 vs = L2.wipe σ vs ∧ LT X.K X.mg cond (fun _ _ _ _ => False) σ2 H2 fun b H3 => if b = true then TB σ2 H3 Nx else Nx H3)
theorem lc_turns (m1 : ∀ p σ h Q Q', (∀ σ h, Q σ h → Q' σ h) → tgt p σ h Q → tgt p σ h Q') (m2 : Mono cond) (hB : BodyOk B EB vs TB) (hix : ∀ j ∈ ix, j ∈ vs)
    {items : List PV} {J : It} {F0 : Ft} {H0 : Hp} (wk : WalkOk X.K F0 H0 items J) (zD : F0.z D) {σ : L2.St} {acc0 : List PV} {u0 : ZO} {σp0 : PSt} {h0 : PH} {Qp : List PV → PSt → PH → Prop} {Fin : Hp → Prop}
    (s0 : Sm X.K H0 F0 σp0 h0 (L2.wipe σ vs)) (e0 : H0 D = some (zo u0)) (r0 : B.rel H0 F0 acc0 u0) (g0 : goG tgt cond EB vs items acc0 σp0 h0 Qp)
    (done : ∀ Fi σi hh acc u H2, FrD D F0 H0 Fi H2 → Sm X.K H2 Fi σi hh (L2.wipe σ vs) → H2 D = some (zo u) → B.rel H2 Fi acc u → Qp acc σi hh → Fin H2) : Turns X J ix vs tgt cond TB σ H0 Fin := by
  obtain ⟨G, Y, wk, gG, gY⟩ := wk
  refine ⟨fun i m H2 => m = items.length - i ∧ i ≤ items.length ∧ ∃ (F : Ft) (σp : PSt) (h : PH) (acc : List PV) (u : ZO), Sm X.K H2 F σp h (L2.wipe σ vs) ∧ H2 D = some (zo u) ∧ B.rel H2 F acc u ∧ FrD D F0 H0 F H2 ∧ goG tgt cond EB vs (items.drop i) acc σp h Qp, ⟨items.length, by simp, Nat.zero_le _, F0, σp0, h0, acc0, u0, s0, e0, r0, .refl, g0⟩, ?_⟩
  rintro i m H2 ⟨rfl, hi, Fi, σi, hh, acc, u, si, eD, ra, fr, go⟩
  have kp1 := fr.keep
  have zi : Fi.z D := by rw [fr.zz]; exact zD
  by_cases hlt : i < items.length
  · refine .inr ⟨wk.goes i H2 hlt (gG Fi H2 kp1), fun H' => ∃ (F : Ft) (σp : PSt) (h : PH) (acc : List PV) (u : ZO), Sm X.K H' F σp h (L2.wipe σ vs) ∧ H' D = some (zo u) ∧ B.rel H' F acc u ∧ FrD D F0 H0 F H' ∧ goG tgt cond EB vs (items.drop (i + 1)) acc σp h Qp, fun H' L => ⟨items.length - (i + 1), by omega, rfl, hlt, L⟩, fun x H3 y => ?_⟩
    have hx : items[i]? = some items[i] := List.getElem?_eq_getElem hlt
    obtain ⟨h3, rx⟩ := gY Fi H2 i x H3 _ kp1 si.fin (wk.yields i H2 x H3 hlt (gG Fi H2 kp1) y) hx
    have f3 : Fr Fi H2 Fi H3 := by
      rcases h3 with rfl | ⟨T, u, nT, rfl⟩
      · exact .refl
      · exact .new nT
    have s3 : Sm X.K H3 Fi σi hh (L2.wipe σ vs) := by
      rcases h3 with rfl | ⟨T, u, nT, rfl⟩
      · exact si
      · exact si.new nT
    rw [List.drop_eq_getElem_cons hlt] at go
    refine ⟨Fi, σi, hh, items[i], s3, rx, m1 _ _ _ _ _ (fun σ4 h4 q4 F4 H4 τ f4 s4 k4 l4 => ?_) go⟩
    have ew : L2.wipe τ vs = L2.wipe σ vs := by
      have q := wipe_same (σ := L2.wipe σ vs) (σ' := τ) (vs := vs) (fun j hj => k4 j fun z => hj (hix j z)) l4
      rw [q, wipe_wipe]
    refine ⟨ew, ?_⟩
    refine ⟨F4, σ4, h4, s4, m2 _ _ _ _ _ _ (fun b σ5 h5 q5 F5 H5 f5 s5 => ?_) (fun _ _ _ z => z.elim) q4⟩
    have g5 := (f3.trans f4).trans f5
    have eD5 := g5.st D _ eD (.inr zi)
    have ra5 := B.keep g5.keep ra
    have z5 : F5.z D := by rw [g5.zz]; exact zi
    cases b with
    | false => exact ⟨F5, wipeP σ5 vs, h5, acc, u, by rw [← ew]; exact s5.wipe vs, eD5, ra5, fr.trans g5.toD, q5⟩
    | true =>
      refine hB F5 H5 σ5 h5 τ acc u _ _ s5 z5 eD5 ra5 q5 fun F' H' σ' h' acc' u' τ' f' s' w' e' r' q' => ?_
      exact ⟨F', wipeP σ' vs, h', acc', u', by rw [← ew, ← w']; exact s'.wipe vs, e', r', (fr.trans g5.toD).trans f', q'⟩
  · have e : i = items.length := by omega
    subst e
    rw [List.drop_length] at go
    exact .inl ⟨wk.stops H2 (gG Fi H2 kp1), done Fi σi hh acc u H2 fr si eD ra go⟩
/-- the body: an item -/
def tbE (X : Cx) (B : Box X.K D) (T : WE) : L2.St → Hp → (Hp → Prop) → Prop := fun τ H Nx => LE X.K X.mg T (fun _ _ _ _ => False) τ H fun y H4 => B.post y H4 Nx
theorem body_elt {T elt : WE} (m3 : Mono T) (hk : ∀ σ h Q E, elt σ h Q E → T σ h (fun e σ' h' => ke B.kp e ∧ Q e σ' h') E) : BodyOk B (ebL elt) vs (tbE X B T) := by
  intro F5 H5 σ5 h5 τ acc u N Nx s5 z5 eD5 ra5 q5 nx
  refine ⟨F5, σ5, h5, s5, m3 _ _ _ _ _ _ (fun e σ6 h6 q6 F6 H6 v f6 r6 => ?_) (fun _ _ _ z => z.elim) (hk _ _ _ _ q5)⟩
  obtain ⟨kk, q6⟩ := q6
  have q6 : share (pend e) σ6 h6 (fun p σ4 h4 => B.kp p ∧ acc.length < sizeLine ∧ N (acc ++ [p]) σ4 h4) := by
    cases e with
    | val p => exact ⟨kk, q6⟩
    | own o => exact share_mono (fun p _ _ q => ⟨kk p, q⟩) (show share (pend (.own o)) σ6 h6 _ from q6)
    | bor i => exact share_mono (fun p _ _ q => ⟨kk p, q⟩) (show share (pend (.bor i)) σ6 h6 _ from q6)
  obtain ⟨F7, p, σ7, h7, s7, rp, ⟨hkp, ha, q7⟩, k7, f7⟩ := share_ok r6.sm r6.re q6
  have g7 := f6.trans f7
  have eD7 := g7.st D _ eD5 (.inr z5)
  have z7 : F7.z D := by rw [g7.zz]; exact z5
  obtain ⟨u', po, ru'⟩ := B.grow eD7 (B.keep g7.keep ra5) rp hkp ha
  obtain ⟨s8, k8⟩ := s7.growO (ys := u') z7
  exact po Nx (nx F7 _ σ7 h7 _ u' τ (g7.toD.trans (.grow (s7.zf D z7).1)) s8 rfl upd_same (B.keep k8 ru') q7)
/-- the body: a walk within -/
def ebI (it : WI) (tgt : WG) (cond : WT) (EB : EBT) (vs : List Nat) : EBT := fun acc σ h N => it σ h (fun items σ3 h3 => goG tgt cond EB vs items acc (wipeP σ3 vs) h3 N) (fun _ _ _ => False)
def tbI (X : Cx) (it : WI) (ix vs : List Nat) (tgt : WG) (cond : WT) (TB : L2.St → Hp → (Hp → Prop) → Prop) : L2.St → Hp → (Hp → Prop) → Prop := fun τ H Nx => LI X.K X.mg it (fun _ _ _ _ => False) τ H fun J H4 => Turns X J ix vs tgt cond TB τ H4 Nx
theorem wipe_in {σ : L2.St} {vs ws : List Nat} (h : ∀ j ∈ ws, j ∈ vs) : L2.wipe (L2.wipe σ ws) vs = L2.wipe σ vs := wipe_same (fun j hj => by rw [wipe_get, if_neg fun z => hj (h j z.1)]) (wipe_length _ _)
theorem body_in {it : WI} {ws : List Nat} (m1 : ∀ p σ h Q Q', (∀ σ h, Q σ h → Q' σ h) → tgt p σ h Q → tgt p σ h Q') (m2 : Mono cond) (mi : Mono it) (hB : BodyOk B EB vs TB) (hix : ∀ j ∈ ix, j ∈ vs) (hv : ∀ j ∈ vs, j ∈ ws) : BodyOk B (ebI it tgt cond EB vs) ws (tbI X it ix vs tgt cond TB) := by
  intro F5 H5 σ5 h5 τ acc u N Nx s5 z5 eD5 ra5 q5 nx
  refine ⟨F5, σ5, h5, s5, mi _ _ _ _ _ _ (fun items σ6 h6 q6 F6 H6 J f6 s6 wk => ?_) (fun _ _ _ z => z.elim) q5⟩
  exact lc_turns m1 m2 hB hix wk (by rw [f6.zz]; exact z5) (s6.wipe vs) (f6.st D _ eD5 (.inr z5)) (B.keep f6.keep ra5) q6 fun Fi σi hh acc' u' H2 fr si e r q =>
    nx Fi H2 σi hh acc' u' _ (f6.toD.trans fr) si (wipe_in hv) e r q
end
/-! ### two clauses -/
def boxL (K : PySem.W.Frag) (D : Addr) : Box K D where
  rel := fun H F acc u => ∃ va, u = .inl va ∧ RpL K H F acc va
  keep := fun k ⟨va, e, r⟩ => ⟨va, e, r.keep k⟩
  kp := fun _ => True
  post := fun y H Nx => ∃ acc, H D = some (.lst acc) ∧ acc.length < sizeLine ∧ Nx (upd H D (.lst (acc ++ [y])))
  grow := fun {H F acc u p v} e ⟨va, eu, r⟩ rp _ l => by
    subst eu
    exact ⟨.inl (va ++ [v]), fun Nx n => ⟨va, e, by rw [← r.length]; exact l, n⟩, va ++ [v], rfl, r.append (.cons rp .nil)⟩
def wLc2 (it : WI) (tgt : WG) (cond : WT) (it1 : WI) (tgt1 : WG) (cond1 : WT) (elt : WE) (vs vs1 : List Nat) : WE := fun σ h Q E => it σ h (fun items σ1 h1 => goG tgt cond (ebI it1 tgt1 cond1 (ebL elt) vs1) vs items [] (wipeP σ1 vs) h1 fun ys σ2 h2 => Q (.own (.lst ys)) (backP σ1 σ2 vs) h2) E
theorem goG_mono {tgt : WG} {cond : WT} {EB : EBT} {vs : List Nat} (m1 : ∀ p σ h Q Q', (∀ σ h, Q σ h → Q' σ h) → tgt p σ h Q → tgt p σ h Q') (m2 : Mono cond) (mE : ∀ acc σ h N N', (∀ a σ h, N a σ h → N' a σ h) → EB acc σ h N → EB acc σ h N') :
    ∀ {xs acc : List PV} {σ : PSt} {h : PH} {Q Q' : List PV → PSt → PH → Prop}, (∀ p σ h, Q p σ h → Q' p σ h) → goG tgt cond EB vs xs acc σ h Q → goG tgt cond EB vs xs acc σ h Q'
  | [], acc, σ, h, Q, Q', i, q => i _ _ _ q
  | x :: xs, acc, σ, h, Q, Q', i, q => m1 _ _ _ _ _ (fun σ1 h1 q => m2 _ _ _ _ _ _ (fun b σ2 h2 q => by
      cases b with
      | true => exact mE _ _ _ _ _ (fun a σ h q => goG_mono m1 m2 mE i q) q
      | false => exact goG_mono m1 m2 mE i q) (fun _ _ _ z => z) q) q
theorem ebL_mono {elt : WE} (m : Mono elt) : ∀ acc σ h N N', (∀ a σ h, N a σ h → N' a σ h) → ebL elt acc σ h N → ebL elt acc σ h N' := fun acc σ h N N' i q => m _ _ _ _ _ _ (fun e σ3 h3 q => share_mono (fun p σ4 h4 q => ⟨q.1, i _ _ _ q.2⟩) q) (fun _ _ _ z => z) q
theorem ebI_mono {it : WI} {tgt : WG} {cond : WT} {EB : EBT} {vs : List Nat} (mi : Mono it) (m1 : ∀ p σ h Q Q', (∀ σ h, Q σ h → Q' σ h) → tgt p σ h Q → tgt p σ h Q') (m2 : Mono cond) (mE : ∀ acc σ h N N', (∀ a σ h, N a σ h → N' a σ h) → EB acc σ h N → EB acc σ h N') :
    ∀ acc σ h N N', (∀ a σ h, N a σ h → N' a σ h) → ebI it tgt cond EB vs acc σ h N → ebI it tgt cond EB vs acc σ h N' := fun acc σ h N N' i q => mi _ _ _ _ _ _ (fun xs σ3 h3 q => goG_mono m1 m2 mE i q) (fun _ _ _ z => z) q
/-- the whole walk, up to what D holds -/
theorem lc_whole {X : Cx} {it : WI} {tgt : WG} {cond : WT} {EB : EBT} {ix vs : List Nat} {Bx : ∀ D, Box X.K D} {u0 : ZO} {TB : Addr → L2.St → Hp → (Hp → Prop) → Prop} (m1 : ∀ p σ h Q Q', (∀ σ h, Q σ h → Q' σ h) → tgt p σ h Q → tgt p σ h Q') (m2 : Mono cond) (mi : Mono it) (hix : ∀ j ∈ ix, j ∈ vs) (nd : vs.Nodup)
    (hB : ∀ D, BodyOk (Bx D) EB vs (TB D)) (r0 : ∀ D H F, (Bx D).rel H F [] u0) {W : WX} {σ : L2.St} {H : Hp} {Q : Addr → Hp → Prop} {F : Ft} {σp : PSt} {h : PH} (s : Sm X.K H F σp h σ) {Qp : List PV → PSt → PH → Prop}
    (q : it σp h (fun items σ1 h1 => goG tgt cond EB vs items [] (wipeP σ1 vs) h1 fun ys σ2 h2 => Qp ys (backP σ1 σ2 vs) h2) (CE' X.K X.mg F σ H W))
    (fin : ∀ D acc u σ2 h2 F2 H2, Qp acc σ2 h2 → Fr F H F2 H2 → H2 D = some (zo u) → ¬ F2 D → H D = none → (Bx D).rel (hide H2 D) F2 acc u → Sm X.K (hide H2 D) F2 σ2 h2 σ → Q D H2) :
    LI X.K X.mg it W σ H fun J H1 => ∀ D, H1 D = none → Turns X J ix vs tgt cond (TB D) σ (upd H1 D (zo u0)) (Q D) := by
  refine ⟨F, σp, h, s, mi _ _ _ _ _ _ (fun items σ1 h1 q1 F1 H1 J f1 s1 wk D nD => ?_) (fun _ _ _ z => z) q⟩
  have n1 : ¬ F1.z D := fun z => s1.nf nD (s1.zf D z).1
  obtain ⟨s2, k2⟩ := (s1.wipe vs).addO nD u0
  refine lc_turns (F0 := ⟨fun b => F1 b ∨ b = D, fun b => F1.z b ∨ b = D, F1.b⟩) m1 m2 (hB D) hix (wk.at k2) (Or.inr rfl) s2 upd_same (r0 D _ _) q1 fun Fi σi hh acc u H2 fr si e r go => ?_
  have zz : ∀ b, Fi.z b ↔ F1.z b ∨ b = D := fun b => by rw [fr.zz]
  have bb : Fi.b = F1.b := fr.bb
  have kp1 : Keep F1 H1 Fi H2 := fun b u' e n => fr.keep b u' (k2 b u' e n).1 (k2 b u' e n).2
  obtain ⟨s9, k9⟩ := si.outZ (F1 := F1) zz n1 (by rw [bb]; exact fun z => by obtain ⟨u, e⟩ := s1.bt D z; rw [nD] at e; cases e)
  have neD : ∀ b u', H1 b = some u' → b ≠ D := fun b u' e z => by rw [z, nD] at e; cases e
  have s10 := Sm.unwipe (F := ⟨fun b => Fi b ∧ b ≠ D, F1.z, Fi.b⟩) (H := hide H2 D) (h := hh) (σp := σi) s1 (fun b u' e n => by
    have q := kp1 b u' e n
    exact ⟨by rw [hide_ne (neD b u' e)]; exact q.1, fun z => q.2 z.1⟩) vs [] (by simpa using nd) (by simpa using s9)
  refine fin D acc u _ hh ⟨fun b => Fi b ∧ b ≠ D, F1.z, Fi.b⟩ H2 go (f1.trans ⟨rfl, bb, fun b u' e n => ?_, fun b z => ?_, fun b z => ?_⟩) e (fun z => z.2 rfl) (f1.dm D nD) ((Bx D).keep k9 r) s10
  · exact fr.st b u' (by rw [upd_ne (neD b u' e)]; exact e) (by
      rcases n with n | n
      · exact .inl fun z => z.elim n (neD b u' e)
      · exact .inr ⟨.inl n, neD b u' e⟩)
  · rcases fr.nw b z.1 with q | q
    · exact q.elim .inl fun q => absurd q z.2
    · rw [upd_ne z.2] at q; exact .inr q
  · exact upd_none (fr.dm b z)
theorem lc2_ok {X : Cx} {it it1 : WI} {tgt tgt1 : WG} {cond cond1 : WT} {elt : WE} {ix vs ix1 vs1 : List Nat} (m1 : ∀ p σ h Q Q', (∀ σ h, Q σ h → Q' σ h) → tgt p σ h Q → tgt p σ h Q') (m2 : Mono cond) (m11 : ∀ p σ h Q Q', (∀ σ h, Q σ h → Q' σ h) → tgt1 p σ h Q → tgt1 p σ h Q') (m21 : Mono cond1) (m3 : Mono elt) (mi : Mono it) (mi1 : Mono it1)
    (hix : ∀ j ∈ ix, j ∈ vs) (hix1 : ∀ j ∈ ix1, j ∈ vs1) (hv : ∀ j ∈ vs1, j ∈ vs) (nd : vs.Nodup)
    {W : WX} {σ : L2.St} {H : Hp} {Q : VK} (q : LE X.K X.mg (wLc2 it tgt cond it1 tgt1 cond1 elt vs vs1) W σ H Q) :
    tLc2 (LI X.K X.mg it W) (LG X.K ix tgt) (LT X.K X.mg cond fun _ _ _ _ => False) (LI X.K X.mg it1 fun _ _ _ _ => False) (LG X.K ix1 tgt1) (LT X.K X.mg cond1 fun _ _ _ _ => False) (LE X.K X.mg elt fun _ _ _ _ => False) vs vs1 σ H Q := by
  obtain ⟨F, σp, h, s, q⟩ := q
  have bE : ∀ D, BodyOk (boxL X.K D) (ebL elt) vs1 (tbE X (boxL X.K D) elt) := fun D => body_elt m3 fun σ h Q E q => m3 _ _ _ _ _ _ (fun e σ h q => ⟨by cases e <;> first | trivial | exact fun _ => trivial, q⟩) (fun _ _ _ z => z) q
  exact lc_whole (Bx := fun D => boxL X.K D) (u0 := .inl []) (TB := fun D => tbI X it1 ix1 vs1 tgt1 cond1 (tbE X (boxL X.K D) elt)) m1 m2 mi hix nd (fun D => body_in m11 m21 mi1 (bE D) hix1 hv) (fun D H F => ⟨[], rfl, .nil⟩) (Q := fun D H => Q (.ref D) H) s
    (Qp := fun ys σ2 h2 => CQ X.K F σ H Q (.own (.lst ys)) σ2 h2) q fun D acc u σ2 h2 F2 H2 go f e n nD r s2 => by
      obtain ⟨va, rfl, r⟩ := r
      exact go F2 H2 _ f ⟨D, _, rfl, n, e, ⟨va, rfl, r⟩, s2, rfl, nD⟩
section
variable {S : Sc}
/-- [elt for tg in iter if .. for tg1 in iter1 if ..] -/
theorem je_lc2 {elt tg iter tg1 iter1 : Expr} {ifs ifs1 : List Expr} {scope : Scope} {own : List (Str × Nat)} {pos : Pos} {it it1 : WI} {tgt tgt1 : WG} {cond cond1 : WT} {te : WE} {ix ix1 vs1 : List Nat} (own' : own = own) (hi : JI S tg iter it) (ok : blkC S.N S.sc scope own = true) (hg : JG (S.blk scope) tg ix tgt) (ht : JTs (S.blk scope) ifs cond)
    (hi1 : JI (S.blk scope) tg1 iter1 it1) (hg1 : JG (S.blk scope) tg1 ix1 tgt1) (ht1 : JTs (S.blk scope) ifs1 cond1) (he : JE (S.blk scope) elt te)
    (hix : ∀ j ∈ ix, j ∈ own.map (·.2) := by decide) (hix1 : ∀ j ∈ ix1, j ∈ vs1 := by decide) (hv : ∀ j ∈ vs1, j ∈ own.map (·.2) := by decide) (nd : (own.map (·.2)).Nodup := by decide) (hc : S.calm = true := by rfl) (hs : ∀ env x, foldedSetIterable iter env x = pure x := by intro _ _; rfl) (hs1 : ∀ env x, foldedSetIterable iter1 env x = pure x := by intro _ _; rfl) :
    JE S (.ListComp elt [⟨tg, iter, ifs, 0⟩, ⟨tg1, iter1, ifs1, 0⟩] scope pos) (wLc2 it tgt cond it1 tgt1 cond1 te (own.map (·.2)) vs1) where
  mono := fun σ h Q Q' E E' i j q => hi.mono _ _ _ _ _ _ (fun xs σ h q => goG_mono hg.mono ht.mono (ebI_mono hi1.mono hg1.mono ht1.mono (ebL_mono he.mono)) (fun p σ h q => i _ _ _ q) q) j q
  run := fun X W A tk => by
    have okX : BlkOk X.N X.env.scope scope own := by rw [A.N, A.sc]; exact blkOk_by ok
    refine pe_weak (pe_lc2 (te := LE X.K X.mg te fun _ _ _ _ => False) (g := LG X.K ix tgt) (tt := LT X.K X.mg cond fun _ _ _ _ => False) (wi1 := LI X.K X.mg it1 fun _ _ _ _ => False) (g1 := LG X.K ix1 tgt1) (tt1 := LT X.K X.mg cond1 fun _ _ _ _ => False) (A.calm hc) A.nd (hi.run X W A tk) okX hv
      (fun s H C cl fp => hg.run _ (A.blk s H scope cl C fp)) (fun s H C cl fp => ht.run _ _ (A.blk s H scope cl C fp) takes0)
      (fun s H C cl fp => hi1.run _ _ (A.blk s H scope cl C fp) takes0) (fun s H C cl fp => hg1.run _ (A.blk s H scope cl C fp)) (fun s H C cl fp => ht1.run _ _ (A.blk s H scope cl C fp) takes0)
      (fun s H C cl fp => he.run _ _ (A.blk s H scope cl C fp) takes0) (hs _) (hs1)) fun σ H Q q => ?_
    exact lc2_ok hg.mono ht.mono hg1.mono ht1.mono he.mono hi.mono hi1.mono hix hix1 hv nd q
end
end PP
set_option Elab.async false
set_option linter.all false
set_option maxRecDepth 100000
set_option maxHeartbeats 4000000
namespace PP
open PySem PySem.Spec PyProof.Rows L2
/-! ### sorted({key: True for ..}) -/
def keyP : PV → Option L2.Key
  | .int i => some (.inl i)
  | .str z => some (.inr z)
  | _ => none
def kP : L2.Key → PV
  | .inl i => .int i
  | .inr z => .str z
theorem keyP_kP {p : PV} {k : L2.Key} (e : keyP p = some k) : p = kP k := by
  cases p <;> cases e <;> rfl
def addK {α : Type} [DecidableEq α] (l : List α) (k : α) : List α := if k ∈ l then l else l ++ [k]
/-- without repeats, in the order of the first ones -/
def ddK {α : Type} [DecidableEq α] (ks : List α) : List α := ks.foldl addK []
theorem ddK_app {α : Type} [DecidableEq α] {ks : List α} {k : α} : ddK (ks ++ [k]) = addK (ddK ks) k := by unfold ddK; rw [List.foldl_append]; rfl
theorem ddK_len {α : Type} [DecidableEq α] {ks : List α} : (ddK ks).length ≤ ks.length := by
  have : ∀ (ks l : List α), (ks.foldl addK l).length ≤ l.length + ks.length := by
    intro ks
    induction ks with
    | nil => intro l; simp
    | cons k ks ih =>
      intro l
      have := ih (addK l k)
      have : (addK l k).length ≤ l.length + 1 := by unfold addK; split <;> simp
      rw [List.foldl_cons, List.length_cons]; omega
  simpa [ddK] using this ks []
theorem ddK_map {α β : Type} [DecidableEq α] [DecidableEq β] {f : α → β} (inj : ∀ a b, f a = f b → a = b) {ks : List α} : ddK (ks.map f) = (ddK ks).map f := by
  have : ∀ (ks l : List α), (ks.map f).foldl addK (l.map f) = (ks.foldl addK l).map f := by
    intro ks
    induction ks with
    | nil => intro l; rfl
    | cons k ks ih =>
      intro l
      rw [List.map_cons, List.foldl_cons, List.foldl_cons, ← ih]
      congr 1
      unfold addK
      have : f k ∈ l.map f ↔ k ∈ l := by
        constructor
        · intro h
          obtain ⟨a, ha, e⟩ := List.mem_map.mp h
          rw [← inj _ _ e]; exact ha
        · exact fun h => List.mem_map_of_mem h
      by_cases c : k ∈ l
      · rw [if_pos (this.mpr c), if_pos c]
      · rw [if_neg fun z => c (this.mp z), if_neg c, List.map_append]; rfl
  simpa [ddK] using this ks []
theorem put_keys {kvs : List (L2.Key × V)} {k : L2.Key} {v : V} : (putK kvs k v).map (·.1) = addK (kvs.map (·.1)) k := by
  unfold putK addK
  have e : (kvs.any fun kv => decide (kv.1 = k)) = true ↔ k ∈ kvs.map (·.1) := by simp
  by_cases c : k ∈ kvs.map (·.1)
  · rw [if_pos (e.mpr c), if_pos c, List.map_map]
    apply List.map_congr_left
    intro a _
    show (if a.1 = k then (a.1, v) else a).1 = a.1
    split <;> rfl
  · rw [if_neg fun z => c (e.mp z), if_neg c, List.map_append]; rfl
def boxD (K : PySem.W.Frag) (D : Addr) : Box K D where
  rel := fun H F acc u => ∃ (ks : List L2.Key) (kvs : List (L2.Key × V)), u = .inr kvs ∧ acc = ks.map kP ∧ kvs.map (·.1) = ddK ks
  keep := fun _ r => r
  kp := fun p => ∃ k, keyP p = some k
  post := fun y H Nx => ∃ kvs k, y = kV k ∧ H D = some (.dK kvs) ∧ kvs.length < sizeLine ∧ Nx (upd H D (.dK (putK kvs k (.bl true))))
  grow := fun {H F acc u p v} e ⟨ks, kvs, eu, ea, ek⟩ rp ⟨k, hk⟩ l => by
    subst eu
    have ep := keyP_kP hk
    subst ep
    have ev : v = kV k := by
      cases k with
      | inl i => exact RT.int (.inl rp)
      | inr z => exact RT.str (.inl rp)
    have ln : kvs.length < sizeLine := by
      have e1 := congrArg List.length ek
      have e2 := ddK_len (ks := ks)
      rw [ea, List.length_map] at l
      rw [List.length_map] at e1
      omega
    exact ⟨.inr (putK kvs k (.bl true)), fun Nx n => ⟨kvs, k, ev, e, ln, n⟩, ks ++ [k], _, rfl, by rw [ea, List.map_append]; rfl, by rw [put_keys, ek, ddK_app]⟩
/-! the order of texts -/
theorem str_le_anti {a b : Str} (h1 : a.cps.toList ≤ b.cps.toList) (h2 : b.cps.toList ≤ a.cps.toList) : a = b := by
  have e := List.le_antisymm h1 h2
  cases a; cases b
  congr 1
  exact Array.ext' e
theorem rising_le : ∀ {l : List Str} {p : Str}, risingS p l = true → (∀ x ∈ l, p.cps.toList ≤ x.cps.toList) ∧ l.Pairwise (fun a b => a.cps.toList ≤ b.cps.toList)
  | [], p, _ => ⟨by simp, .nil⟩
  | x :: r, p, h => by
    unfold risingS at h
    rw [Bool.and_eq_true] at h
    have px : p.cps.toList ≤ x.cps.toList := by
      have := h.1
      rw [ltCps_eq] at this
      simpa [List.not_lt] using this
    have ih := rising_le h.2
    refine ⟨fun y hy => ?_, .cons ih.1 ih.2⟩
    rcases List.mem_cons.mp hy with rfl | hy
    · exact px
    · exact List.le_trans px (ih.1 y hy)
theorem sortedS_pw {l : List Str} (h : sortedS l = true) : l.Pairwise (fun a b => a.cps.toList ≤ b.cps.toList) := by
  cases l with
  | nil => exact .nil
  | cons x r =>
    have := rising_le (p := x) (l := r) h
    exact .cons this.1 this.2
def sortS (zs : List Str) : List Str := zs.mergeSort fun a b => decide (a.cps.toList ≤ b.cps.toList)
theorem sortS_eq {ys zs : List Str} (hp : ys.Perm zs) (hs : sortedS ys = true) : ys = sortS zs := by
  refine List.Perm.eq_of_pairwise (le := fun a b => a.cps.toList ≤ b.cps.toList) ?_ (sortedS_pw hs) ?_ (hp.trans (List.mergeSort_perm zs _).symm)
  · intro a b _ _ h1 h2; exact str_le_anti h1 h2
  · have := List.pairwise_mergeSort (le := fun a b : Str => decide (a.cps.toList ≤ b.cps.toList)) (fun a b c h1 h2 => by simp at *; exact List.le_trans h1 h2) (fun a b => by simp; exact List.le_total _ _) zs
    exact this.imp fun h => by simpa using h
def sortN (ns : List Int) : List Int := ns.mergeSort fun a b => decide (a ≤ b)
theorem sortN_eq {ys zs : List Int} (hp : ys.Perm zs) (hs : ys.Pairwise (· ≤ ·)) : ys = sortN zs := by
  refine List.Perm.eq_of_pairwise (le := fun a b => a ≤ b) ?_ hs ?_ (hp.trans (List.mergeSort_perm zs _).symm)
  · intro a b _ _ h1 h2; omega
  · have := List.pairwise_mergeSort (le := fun a b : Int => decide (a ≤ b)) (fun a b c h1 h2 => by simp at *; omega) (fun a b => by simp; omega) zs
    exact this.imp fun h => by simpa using h
def keyI : List PV → Option (List Int)
  | [] => some []
  | .int i :: r => (keyI r).map (i :: ·)
  | _ => none
def keyS : List PV → Option (List Str)
  | [] => some []
  | .str z :: r => (keyS r).map (z :: ·)
  | _ => none
theorem keyI_eq : ∀ {ks : List L2.Key} {ns : List Int}, keyI (ks.map kP) = some ns → ks = ns.map Sum.inl
  | [], ns, e => by cases e; rfl
  | .inl i :: r, ns, e => by
    have e : (keyI (r.map kP)).map (i :: ·) = some ns := e
    cases h : keyI (r.map kP) with
    | none => rw [h] at e; cases e
    | some ms => rw [h] at e; cases e; rw [List.map_cons, ← keyI_eq h]
  | .inr z :: r, ns, e => by cases e
theorem keyS_eq : ∀ {ks : List L2.Key} {ns : List Str}, keyS (ks.map kP) = some ns → ks = ns.map Sum.inr
  | [], ns, e => by cases e; rfl
  | .inr i :: r, ns, e => by
    have e : (keyS (r.map kP)).map (i :: ·) = some ns := e
    cases h : keyS (r.map kP) with
    | none => rw [h] at e; cases e
    | some ms => rw [h] at e; cases e; rw [List.map_cons, ← keyS_eq h]
  | .inl z :: r, ns, e => by cases e
/-- what sorted tells of a dict with these keys -/
def sortK (ys : List PV) : Option (List PV) := match keyI ys with
  | some ns => if (ddK ns).length < 64 then some ((sortN (ddK ns)).map .int) else none
  | none => match keyS ys with
    | some zs => if (ddK zs).length < 64 then some ((sortS (ddK zs)).map .str) else none
    | none => none
def wKe (T : WE) : WE := fun σ h Q E => T σ h (fun e σ' h' => ke (fun p => ∃ k, keyP p = some k) e ∧ Q e σ' h') E
theorem wKe_mono {T : WE} (m : Mono T) : Mono (wKe T) := fun σ h Q Q' E E' i j q => m _ _ _ _ _ _ (fun e σ h q => ⟨q.1, i _ _ _ q.2⟩) j q
def wSdc (it : WI) (tgt : WG) (cond : WT) (key : WE) (vs : List Nat) : WE := fun σ h Q E => it σ h (fun items σ1 h1 => goG tgt cond (ebL (wKe key)) vs items [] (wipeP σ1 vs) h1 fun ys σ2 h2 => ∃ out, sortK ys = some out ∧ Q (.own (.lst out)) (backP σ1 σ2 vs) h2) E
def rSd : List V → Hp → VK → Prop := fun xs H Q => (∃ (a : Addr) (kvs : List (L2.Key × V)) (ks : List Str), xs = [.ref a] ∧ Rd H a (.dK kvs) ∧ kvs.map (·.1) = ks.map Sum.inr ∧ ks.length < 64 ∧
    ∀ ys p, ys.Perm ks → sortedS ys = true → H p = none → Q (.ref p) (upd H p (.lst (ys.map V.str)))) ∨
  (∃ (a : Addr) (kvs : List (L2.Key × V)) (ks : List Int), xs = [.ref a] ∧ Rd H a (.dK kvs) ∧ kvs.map (·.1) = ks.map Sum.inl ∧ ks.length < 64 ∧
    ∀ (ys : List Int) (p : Addr), ys.Perm ks → ys.Pairwise (· ≤ ·) → H p = none → Q (.ref p) (upd H p (.lst (ys.map V.int))))
theorem cr_sd {X : Cx} (hc : X.calm = true) : CallR X (.builtin "sorted") rSd := by
  intro pins s σ H xs us Q I r q
  rcases q with q | q
  · exact call_sortedD hc pins s σ H xs us Q I r q
  · exact call_sortedDI hc pins s σ H xs us Q I r q
theorem ofStrs {K : PySem.W.Frag} {H : Hp} {F : Addr → Prop} (zs : List Str) : RpL K H F (zs.map PV.str) (zs.map V.str) := by
  induction zs with
  | nil => exact .nil
  | cons n r ih => exact .cons (.str n) ih
theorem sdc_ok {X : Cx} {it : WI} {tgt : WG} {cond : WT} {key : WE} {ix vs : List Nat} (m1 : ∀ p σ h Q Q', (∀ σ h, Q σ h → Q' σ h) → tgt p σ h Q → tgt p σ h Q') (m2 : Mono cond) (m3 : Mono key) (mi : Mono it) (hix : ∀ j ∈ ix, j ∈ vs) (nd : vs.Nodup)
    {W : WX} {σ : L2.St} {H : Hp} {Q : VK} (q : LE X.K X.mg (wSdc it tgt cond key vs) W σ H Q) :
    tCB rSd (tCons (tDc (LI X.K X.mg it W) (LG X.K ix tgt) (LT X.K X.mg cond fun _ _ _ _ => False) (LE X.K X.mg key fun _ _ _ _ => False) (tC (.bl true)) vs) tNil) σ H Q := by
  obtain ⟨F, σp, h, s, q⟩ := q
  have bE : ∀ D, BodyOk (boxD X.K D) (ebL (wKe key)) vs (tbE X (boxD X.K D) key) := fun D => body_elt m3 fun σ h Q E q => q
  exact lc_whole (Bx := fun D => boxD X.K D) (u0 := .inr []) (TB := fun D => tbE X (boxD X.K D) key) m1 m2 mi hix nd bE (fun D H F => ⟨[], [], rfl, rfl, rfl⟩) (Q := fun D H => rSd [.ref D] H Q) s
    (Qp := fun ys σ2 h2 => ∃ out, sortK ys = some out ∧ CQ X.K F σ H Q (.own (.lst out)) σ2 h2) q fun D acc u σ2 h2 F2 H2 ⟨out, eo, go⟩ f e n nD r s2 => by
      obtain ⟨ks, kvs, rfl, ea, ek⟩ := r
      have s3 : ∀ (p : Addr) (o : HO), H2 p = none → Fr F H F2 (upd H2 p o) := fun p o np => f.trans (.new np)
      have sm : Sm X.K H2 F2 σ2 h2 σ := s2.unhide
      unfold sortK at eo
      split at eo
      · rename_i ns en
        rw [ea] at en
        have := keyI_eq en
        subst this
        rw [ddK_map (fun a b h => by cases h; rfl)] at ek
        split at eo
        · rename_i l64
          cases eo
          refine .inr ⟨D, kvs, ddK ns, rfl, .of e, ek, l64, fun ys p hp hs np => ?_⟩
          rw [sortN_eq hp hs]
          exact go F2 _ _ (s3 p _ np) ((RS.new (o := .lst ((sortN (ddK ns)).map .int)) sm np ⟨_, rfl, .ofInts _⟩ rfl).early f.dm)
        · cases eo
      · split at eo
        · rename_i zs en
          rw [ea] at en
          have := keyS_eq en
          subst this
          rw [ddK_map (fun a b h => by cases h; rfl)] at ek
          split at eo
          · rename_i l64
            cases eo
            refine .inl ⟨D, kvs, ddK zs, rfl, .of e, ek, l64, fun ys p hp hs np => ?_⟩
            rw [sortS_eq hp hs]
            exact go F2 _ _ (s3 p _ np) ((RS.new (o := .lst ((sortS (ddK zs)).map .str)) sm np ⟨_, rfl, ofStrs _⟩ rfl).early f.dm)
          · cases eo
        · cases eo
section
variable {S : Sc}
/-- sorted({key: True for tg in iter if ..}) -/
theorem je_sdc {key tg iter : Expr} {ifs : List Expr} {scope : Scope} {own : List (Str × Nat)} {pos p1 p2 p3 : Pos} {j : Nat} {it : WI} {tgt : WG} {cond : WT} {te : WE} {ix : List Nat} (own' : own = own) (hm : S.mg "sorted" = none) (hi : JI S tg iter it) (ok : blkC S.N S.sc scope own = true) (hg : JG (S.blk scope) tg ix tgt) (ht : JTs (S.blk scope) ifs cond) (he : JE (S.blk scope) key te)
    (hix : ∀ j ∈ ix, j ∈ own.map (·.2) := by decide) (nd : (own.map (·.2)).Nodup := by decide) (hc : S.calm = true := by rfl) (hs : ∀ env x, foldedSetIterable iter env x = pure x := by intro _ _; rfl) (hgl : S.sc.names.lookup ("sorted" : Str) = some .globalImplicit := by rfl)
    (he2 : ∀ env, starEach [.DictComp key (.Constant (.bool true) j p3) [⟨tg, iter, ifs, 0⟩] scope pos] env = (false, eval (.DictComp key (.Constant (.bool true) j p3) [⟨tg, iter, ifs, 0⟩] scope pos) env) :: starEach [] env := by intro _; rfl) (hpl : ∀ env, (backTo p2 (starEach [] env)).any (·.1) = false := by intro _; rfl) :
    JE S (.Call (.Name "sorted" p1) [.DictComp key (.Constant (.bool true) j p3) [⟨tg, iter, ifs, 0⟩] scope pos] [] p2) (wSdc it tgt cond te (own.map (·.2))) where
  mono := fun σ h Q Q' E E' i j q => hi.mono _ _ _ _ _ _ (fun xs σ h q => goG_mono hg.mono ht.mono (ebL_mono (wKe_mono he.mono)) (fun p σ h ⟨out, e, q⟩ => ⟨out, e, i _ _ _ q⟩) q) j q
  run := fun X W A tk => by
    have okX : BlkOk X.N X.env.scope scope own := by rw [A.N, A.sc]; exact blkOk_by ok
    refine pe_weak (pe_callB (cr_sd (A.calm hc)) (gl_of A hgl) (by rw [A.mg]; exact hm) rfl (pa_cons (pe_dc (tk := LE X.K X.mg te fun _ _ _ _ => False) (tv := tC (.bl true)) (g := LG X.K ix tgt) (tt := LT X.K X.mg cond fun _ _ _ _ => False) (A.calm hc) A.nd (hi.run X W A tk) okX
      (fun s H C cl fp => hg.run _ (A.blk s H scope cl C fp)) (fun s H C cl fp => ht.run _ _ (A.blk s H scope cl C fp) takes0) (fun s H C cl fp => he.run _ _ (A.blk s H scope cl C fp) takes0) (fun s H C cl fp => pe_bl) (hs _)) pa_nil (he2 _)) (by decide) (by decide) (he2 _) (hpl _)) fun σ H Q q => ?_
    exact sdc_ok hg.mono ht.mono he.mono hi.mono hix nd q
end
section
variable {S : Sc} {pos : Pos}
/-- name = [.. for .. for ..] on one line -/
theorem js_setLc2 (i : Nat) {y : Str} {py spos : Pos} {elt tg iter tg1 iter1 : Expr} {ifs ifs1 : List Expr} {scope : Scope} {own : List (Str × Nat)} {it it1 : WI} {tgt tgt1 : WG} {cond cond1 : WT} {te : WE} {ix ix1 vs1 : List Nat} (hi : JI S tg iter it) (ok : blkC S.N S.sc scope own = true) (hg : JG (S.blk scope) tg ix tgt) (ht : JTs (S.blk scope) ifs cond)
    (hi1 : JI (S.blk scope) tg1 iter1 it1) (hg1 : JG (S.blk scope) tg1 ix1 tgt1) (ht1 : JTs (S.blk scope) ifs1 cond1) (he : JE (S.blk scope) elt te)
    (hN : S.N[i]? = some y := by rfl) (hy : S.sc.names.lookup y = some .local := by rfl) (hl : (py.line == pos.line) = true := by rfl) (hnl : (scope.names.any fun (n, k) => n == y && (k == .local || k == .cell)) = false := by decide +kernel) (hk : S.sc.kind = .function := by rfl)
    (hix : ∀ j ∈ ix, j ∈ own.map (·.2) := by decide) (hix1 : ∀ j ∈ ix1, j ∈ vs1 := by decide) (hv : ∀ j ∈ vs1, j ∈ own.map (·.2) := by decide) (nd : (own.map (·.2)).Nodup := by decide) (hc : S.calm = true := by rfl) (hs : ∀ env x, foldedSetIterable iter env x = pure x := by intro _ _; rfl) (hs1 : ∀ env x, foldedSetIterable iter1 env x = pure x := by intro _ _; rfl) :
    JS S (.Assign [.Name y py] (.ListComp elt [⟨tg, iter, ifs, 0⟩, ⟨tg1, iter1, ifs1, 0⟩] scope pos) spos) (sSet i (wLc2 it tgt cond it1 tgt1 cond1 te (own.map (·.2)) vs1)) where
  mono := fun D D' σ h l q => hi.mono _ _ _ _ _ _ (fun xs σ h q => goG_mono hg.mono ht.mono (ebI_mono hi1.mono hg1.mono ht1.mono (ebL_mono he.mono)) (fun p σ h q => putE_mono l.nx q) q) l.ex q
  run := fun X W A tk hp => by
    have okX : BlkOk X.N X.env.scope scope own := by rw [A.N, A.sc]; exact blkOk_by ok
    have hyX : X.env.scope.names.lookup y = some .local := by rw [A.sc]; exact hy
    refine ps_weak (ps_setLc2 (i := i) (te := LE X.K X.mg te fun _ _ _ _ => False) (g := LG X.K ix tgt) (tt := LT X.K X.mg cond fun _ _ _ _ => False) (wi1 := LI X.K X.mg it1 fun _ _ _ _ => False) (g1 := LG X.K ix1 tgt1) (tt1 := LT X.K X.mg cond1 fun _ _ _ _ => False) (A.calm hc) A.nd (by rw [A.N]; exact hN) hyX (sw_true (by rw [A.sc]; exact hk) hyX hl hnl) (hi.run X W A tk) okX hv
      (fun s H C cl fp => hg.run _ (A.blk s H scope cl C fp)) (fun s H C cl fp => ht.run _ _ (A.blk s H scope cl C fp) takes0)
      (fun s H C cl fp => hi1.run _ _ (A.blk s H scope cl C fp) takes0) (fun s H C cl fp => hg1.run _ (A.blk s H scope cl C fp)) (fun s H C cl fp => ht1.run _ _ (A.blk s H scope cl C fp) takes0)
      (fun s H C cl fp => he.run _ _ (A.blk s H scope cl C fp) takes0) (hs _) (hs1)) fun D σ H q => ?_
    obtain ⟨F, σp, h, s, q⟩ := q
    refine lc2_ok hg.mono ht.mono hg1.mono ht1.mono he.mono hi.mono hi1.mono hix hix1 hv nd ⟨F, σp, h, s, ?_⟩
    refine hi.mono _ _ _ _ _ _ (fun xs σ1 h1 q => goG_mono hg.mono ht.mono (ebI_mono hi1.mono hg1.mono ht1.mono (ebL_mono he.mono)) (fun ys σ2 h2 q F1 H1 v f1 r1 => ?_) q) (fun _ _ _ z => ex_of z) q
    obtain ⟨F2, σ2, h2, f2, s2, q2⟩ := putE_ok s f1 r1 q
    exact q2 F2 H1 _ f2 s2
end
/-! ### len({key: True for ..}) -/
def lenK (ys : List PV) : Option Nat := match keyI ys with
  | some ns => some (ddK ns).length
  | none => match keyS ys with
    | some zs => some (ddK zs).length
    | none => none
def wLdc (it : WI) (tgt : WG) (cond : WT) (key : WE) (vs : List Nat) : WE := fun σ h Q E => it σ h (fun items σ1 h1 => goG tgt cond (ebL (wKe key)) vs items [] (wipeP σ1 vs) h1 fun ys σ2 h2 => ∃ n, lenK ys = some n ∧ Q (.val (.int (n : Nat))) (backP σ1 σ2 vs) h2) E
def rLd : List V → Hp → VK → Prop := fun xs H Q => ∃ (a : Addr) (kvs : List (L2.Key × V)), xs = [.ref a] ∧ Rd H a (.dK kvs) ∧ Q (.int (kvs.length : Nat)) H
theorem cr_ld {X : Cx} : CallR X (.builtin "len") rLd := by
  intro pins s σ H xs us Q I r q
  obtain ⟨a, kvs, ex, hd, q⟩ := q
  subst ex
  obtain ⟨u, eu, rx⟩ := vals1 r
  subst eu
  cases rx
  exact d_len I hd fun t s' I' => ⟨.int (kvs.length : Nat), H, I', ⟨t, rfl⟩, q⟩
theorem ldc_ok {X : Cx} {it : WI} {tgt : WG} {cond : WT} {key : WE} {ix vs : List Nat} (m1 : ∀ p σ h Q Q', (∀ σ h, Q σ h → Q' σ h) → tgt p σ h Q → tgt p σ h Q') (m2 : Mono cond) (m3 : Mono key) (mi : Mono it) (hix : ∀ j ∈ ix, j ∈ vs) (nd : vs.Nodup)
    {W : WX} {σ : L2.St} {H : Hp} {Q : VK} (q : LE X.K X.mg (wLdc it tgt cond key vs) W σ H Q) :
    tCB rLd (tCons (tDc (LI X.K X.mg it W) (LG X.K ix tgt) (LT X.K X.mg cond fun _ _ _ _ => False) (LE X.K X.mg key fun _ _ _ _ => False) (tC (.bl true)) vs) tNil) σ H Q := by
  obtain ⟨F, σp, h, s, q⟩ := q
  have bE : ∀ D, BodyOk (boxD X.K D) (ebL (wKe key)) vs (tbE X (boxD X.K D) key) := fun D => body_elt m3 fun σ h Q E q => q
  exact lc_whole (Bx := fun D => boxD X.K D) (u0 := .inr []) (TB := fun D => tbE X (boxD X.K D) key) m1 m2 mi hix nd bE (fun D H F => ⟨[], [], rfl, rfl, rfl⟩) (Q := fun D H => rLd [.ref D] H Q) s
    (Qp := fun ys σ2 h2 => ∃ n, lenK ys = some n ∧ CQ X.K F σ H Q (.val (.int (n : Nat))) σ2 h2) q fun D acc u σ2 h2 F2 H2 ⟨n, en, go⟩ f e nn nD r s2 => by
      obtain ⟨ks, kvs, rfl, ea, ek⟩ := r
      have sm : Sm X.K H2 F2 σ2 h2 σ := s2.unhide
      have el : kvs.length = n := by
        have l1 := congrArg List.length ek
        rw [List.length_map] at l1
        unfold lenK at en
        split at en
        · rename_i ns q
          rw [ea] at q
          have := keyI_eq q
          subst this
          rw [ddK_map (fun a b h => by cases h; rfl), List.length_map] at l1
          cases en; exact l1
        · split at en
          · rename_i zs q
            rw [ea] at q
            have := keyS_eq q
            subst this
            rw [ddK_map (fun a b h => by cases h; rfl), List.length_map] at l1
            cases en; exact l1
          · cases en
      exact ⟨D, kvs, rfl, .of e, go F2 H2 _ f (by rw [el]; exact rsv sm (.int _))⟩
section
variable {S : Sc}
theorem je_ldc {key tg iter : Expr} {ifs : List Expr} {scope : Scope} {own : List (Str × Nat)} {pos p1 p2 p3 : Pos} {j : Nat} {it : WI} {tgt : WG} {cond : WT} {te : WE} {ix : List Nat} (own' : own = own) (hm : S.mg "len" = none) (hi : JI S tg iter it) (ok : blkC S.N S.sc scope own = true) (hg : JG (S.blk scope) tg ix tgt) (ht : JTs (S.blk scope) ifs cond) (he : JE (S.blk scope) key te)
    (hix : ∀ j ∈ ix, j ∈ own.map (·.2) := by decide) (nd : (own.map (·.2)).Nodup := by decide) (hc : S.calm = true := by rfl) (hs : ∀ env x, foldedSetIterable iter env x = pure x := by intro _ _; rfl) (hgl : S.sc.names.lookup ("len" : Str) = some .globalImplicit := by rfl)
    (he2 : ∀ env, starEach [.DictComp key (.Constant (.bool true) j p3) [⟨tg, iter, ifs, 0⟩] scope pos] env = (false, eval (.DictComp key (.Constant (.bool true) j p3) [⟨tg, iter, ifs, 0⟩] scope pos) env) :: starEach [] env := by intro _; rfl) (hpl : ∀ env, (backTo p2 (starEach [] env)).any (·.1) = false := by intro _; rfl) :
    JE S (.Call (.Name "len" p1) [.DictComp key (.Constant (.bool true) j p3) [⟨tg, iter, ifs, 0⟩] scope pos] [] p2) (wLdc it tgt cond te (own.map (·.2))) where
  mono := fun σ h Q Q' E E' i j q => hi.mono _ _ _ _ _ _ (fun xs σ h q => goG_mono hg.mono ht.mono (ebL_mono (wKe_mono he.mono)) (fun p σ h ⟨out, e, q⟩ => ⟨out, e, i _ _ _ q⟩) q) j q
  run := fun X W A tk => by
    have okX : BlkOk X.N X.env.scope scope own := by rw [A.N, A.sc]; exact blkOk_by ok
    refine pe_weak (pe_callB cr_ld (gl_of A hgl) (by rw [A.mg]; exact hm) rfl (pa_cons (pe_dc (tk := LE X.K X.mg te fun _ _ _ _ => False) (tv := tC (.bl true)) (g := LG X.K ix tgt) (tt := LT X.K X.mg cond fun _ _ _ _ => False) (A.calm hc) A.nd (hi.run X W A tk) okX
      (fun s H C cl fp => hg.run _ (A.blk s H scope cl C fp)) (fun s H C cl fp => ht.run _ _ (A.blk s H scope cl C fp) takes0) (fun s H C cl fp => he.run _ _ (A.blk s H scope cl C fp) takes0) (fun s H C cl fp => pe_bl) (hs _)) pa_nil (he2 _)) (by decide) (by decide) (he2 _) (hpl _)) fun σ H Q q => ?_
    exact ldc_ok hg.mono ht.mono he.mono hi.mono hix nd q
end
end PP
set_option Elab.async false
set_option linter.all false
set_option maxRecDepth 100000
set_option maxHeartbeats 1000000
namespace PP
open PySem PySem.Spec PyProof.Rows L2
/-! ### errors whose __init__ says Base.__init__(self, word) and stores its words -/
section
variable {X : Cx} {e : Expr} {es : List Expr} {ta : TA} {p1 p2 pos : Pos} {x : Str} {L : Addr} {mc : Value}
/-- Base.__init__(self, ..), Base an own class that has ValueError's -/
theorem pe_linit {pl : Sem Bool} (hg : Gl X x) (hm : X.mg x = some (.ref L)) (r : ClX.CRead X.K L mc) (at_ : PySem.W.findCls X.K (.ref L) mc "__init__" = some (.val (.builtin "ValueError.__init__"))) (ha : PA X (e :: es) ta)
    (hdb : (x == ("__debug__" : Str)) = false := by decide)
    (hc : eval (.Call (.Attribute (.Name x p1) "__init__" p2) (e :: es) [] pos) X.env = (do
      let ov ← eval (.Name x p1) X.env
      standAt p2.atName
      let (f, first) ← holding [ov] (getMethod ov "__init__" pl)
      callWith pos f first (backTo pos (starEach (e :: es) X.env)) (backToKw pos (keywordEach [] X.env))) := by rfl)
    (he : starEach (e :: es) X.env = (false, eval e X.env) :: starEach es X.env := by rfl) (hpl : (backTo pos (starEach es X.env)).any (·.1) = false := by rfl) :
    PE X (.Call (.Attribute (.Name x p1) "__init__" p2) (e :: es) [] pos) (tVeI X.K ta) := by
  refine ⟨fun pins s σ H Q I h => ?_⟩
  refine PySem.W.methodCall_KW (ld_glob I hg hm ?_ hdb) hc
  refine PySem.W.method_cls I.kIn r.ga (PySem.W.cls_value I.kIn r.rd at_ (by decide +kernel) ?_)
  show wpAny _ _ (callWith pos (Value.builtin "ValueError.__init__") [] (backTo pos (starEach (e :: es) X.env)) []) _ _ _
  refine PyProof.Rows.callWith_method1 (thn (ha.run pos pins _ σ H _ (I.tok _) h) fun us s1 ⟨vs, H1, I1, r1, a, C, ws, ev, hl, T, ea, q⟩ => ?_) he hpl
  subst ev
  cases r1 with
  | @cons _ u0 _ ur ra rw' =>
    obtain rfl : u0 = Value.ref a := ra
    have hlen : ur.length ≤ sizeLine := by
      rw [← Paired.length rw', sizeLine_eq]
      omega
    exact oinit_ok T I1 ea hlen fun s' J => ⟨.non, H1, J, rfl, q⟩
end
/-- what such an __init__ does -/
def spInit (K : PySem.W.Frag) (C : Addr) (fs : List Str) : Sp := fun vs H Q E => ∃ a ws, vs = .ref a :: ws ∧ ws.length = fs.length ∧ H a = some (exo a C none) ∧ ∀ d, H d = none → d ≠ a → Q .non (upd (upd H d (exd d (fs.zip ws).reverse)) a (exo a C (some d)))
/-- the class x (at C): what the top says of it, for raising it -/
structure XN (P : Program) (w : World) (K : PySem.W.Frag) (mg : Str → Option Value) (base : Heap) (x : Str) (fs : List Str) : Prop where
  ex : ∃ C fI fd, mg x = some (.ref C) ∧ OexC K C ∧ PySem.W.findIn K (.ref C) "__init__" = some (some (.ref fI)) ∧ PySem.W.typeIn K (.ref fI) = some (.type "function") ∧ FnOk P w K mg base CX0 1 fI fd ("self" :: fs) (spInit K C fs) ∧ Binds K fd ("self" :: fs) []
section
variable {P : Program} {w : World} {K : PySem.W.Frag} {mg : Str → Option Value} {base : Heap} {st : Stmt} {fI C : Addr} {fd : FuncData} {qual : Str}
theorem init_len {fs : List Str} : ∀ vs H Q E, spInit K C fs vs H Q E → vs.length = ("self" :: fs : List Str).length := fun vs H Q E ⟨a, ws, e, l, _⟩ => by rw [e]; simp [l]
theorem upd_swap {H : Hp} {a b : Addr} {o u : HO} (h : a ≠ b) : upd (upd H a o) b u = upd (upd H b u) a o := by
  funext c
  unfold upd
  by_cases h1 : c = b <;> by_cases h2 : c = a
  · exact absurd (h2.symm.trans h1) h
  · rw [if_pos h1, if_neg h2, if_pos h1]
  · rw [if_neg h1, if_pos h2, if_pos h2]
  · rw [if_neg h1, if_neg h2, if_neg h2, if_neg h1]
theorem upd_twice {H : Hp} {a : Addr} {o u : HO} : upd (upd H a o) a u = upd H a u := by
  funext c; unfold upd; split <;> rfl
/-- def __init__(self, word): Base.__init__(self, word); self.word = word -/
theorem ok_init1 (F : Fun K "__init__" qual st fI fd) (S : FnScope ["self", "word"] ["self", "word"] (defScope st)) (T : OexC K C) (no : PySem.W.findIn K (.ref C) "word" = some none)
    (hd : ∀ cdv A outer s H E, PSs (cxOf CX0 P w K mg base ["self", "word"] qual (defScope st) fI cdv A outer s H E).nox (defBody st) (tSeq (tDrop (tVeI K (tCons (tVar 0) (tCons (tVar 1) tNil)))) (tOst K "word" (tVar 0) (tVar 1)))) :
    FnOk P w K mg base CX0 1 fI fd ["self", "word"] (spInit K C ["word"]) := by
  refine F.ok S init_len fun cdv A outer s H vs Q E hr h => ⟨_, hd cdv A outer s H E, ?_⟩
  obtain ⟨a, ws, rfl, hl, ha, q⟩ := h
  match ws, hl with
  | [y], _ =>
    refine ⟨.ref a, rfl, y, rfl, a, C, [y], rfl, by simp, T, ha, ?_⟩
    exact ⟨y, rfl, .ref a, rfl, a, C, rfl, T, no, .inl ⟨ha, fun dx n ne => q dx n ne⟩⟩
theorem ok_init2 (F : Fun K "__init__" qual st fI fd) (S : FnScope ["self", "line", "word"] ["self", "line", "word"] (defScope st)) (T : OexC K C) (no : PySem.W.findIn K (.ref C) "word" = some none) (nl : PySem.W.findIn K (.ref C) "line" = some none)
    (hd : ∀ cdv A outer s H E, PSs (cxOf CX0 P w K mg base ["self", "line", "word"] qual (defScope st) fI cdv A outer s H E).nox (defBody st) (tSeq (tDrop (tVeI K (tCons (tVar 0) (tCons (tVar 2) tNil)))) (tSeq (tOst K "line" (tVar 0) (tVar 1)) (tOst K "word" (tVar 0) (tVar 2))))) :
    FnOk P w K mg base CX0 1 fI fd ["self", "line", "word"] (spInit K C ["line", "word"]) := by
  refine F.ok S init_len fun cdv A outer s H vs Q E hr h => ⟨_, hd cdv A outer s H E, ?_⟩
  obtain ⟨a, ws, rfl, hl, ha, q⟩ := h
  match ws, hl with
  | [y, z], _ =>
    refine ⟨.ref a, rfl, z, rfl, a, C, [z], rfl, by simp, T, ha, ?_⟩
    refine ⟨y, rfl, .ref a, rfl, a, C, rfl, T, nl, .inl ⟨ha, fun dx n ne => ?_⟩⟩
    refine ⟨z, rfl, .ref a, rfl, a, C, rfl, T, no, .inr ⟨dx, _, upd_same, by rw [upd_ne ne, upd_same], by simp, ?_⟩⟩
    have e := q dx n ne
    have e2 : upd (upd (upd H dx (exd dx [("line", y)])) a (exo a C (some dx))) dx (exd dx [("word", z), ("line", y)]) = upd (upd H dx (exd dx [("word", z), ("line", y)])) a (exo a C (some dx)) := by
      rw [upd_swap ne, upd_twice, upd_swap (Ne.symm ne)]
    show Q .non _
    rw [e2]; exact e
/-! ### raise C(e, ..) -/
def flatE : PV → Bool
  | .non => true
  | .bl _ => true
  | .int _ => true
  | .str _ => true
  | _ => false
def sRaiseI (x : Str) (fs : List Str) (U : WA) : WS := fun D σ h => U σ h (fun es σ1 h1 => ∃ ps : List PV, es = ps.map EV.val ∧ ps.length = fs.length ∧ (∀ p ∈ ps, flatE p = true) ∧ D.ex ⟨x, fs.zip ps⟩ σ1 h1) D.ex
end
theorem Rp.flatOf {K : PySem.W.Frag} {H H' : Hp} {F F' : Addr → Prop} {p : PV} {v : V} (f : flatE p = true) (r : Rp K H F p v) : Rp K H' F' p v := by
  cases r with
  | non => exact .non
  | bl b => exact .bl b
  | int i => exact .int i
  | str x => exact .str x
  | _ => cases f
theorem zip_lookup {K : PySem.W.Frag} {F : Ft} {σ : L2.St} {H : Hp} : ∀ {fs : List Str} {ps : List PV} {vs : List V}, ps.length = fs.length → fs.Nodup → (∀ p ∈ ps, flatE p = true) → REL K F σ H (ps.map EV.val) vs → ∀ f p, (fs.zip ps).lookup f = some p → ∃ v, ((fs.zip vs).reverse).lookup f = some v ∧ Rp K (fun _ => none) (fun _ => False) p v
  | [], ps, vs, _, _, _, _, f, p, e => by simp at e
  | g :: fs, [], vs, l, _, _, _, f, p, e => by simp at l
  | g :: fs, q :: ps, vs, l, nd, fl, r, f, p, e => by
    cases r with
    | @cons _ v _ vs rv rr =>
      have nd' := List.nodup_cons.mp nd
      have key : ∀ {l : List (Str × V)} {f : Str} {x : V}, l.lookup f = some x → ∀ l', (l ++ l').lookup f = some x := by
        intro l
        induction l with
        | nil => intro f x h; cases h
        | cons a l ih =>
          intro f x h l'
          obtain ⟨a1, a2⟩ := a
          simp only [List.cons_append, List.lookup_cons] at h ⊢
          split at h
          · exact h
          · exact ih h l'
      have none_of : ∀ {l : List (Str × V)} {f : Str}, (∀ x ∈ l, x.1 ≠ f) → ∀ l', (l ++ l').lookup f = l'.lookup f := by
        intro l
        induction l with
        | nil => intro f _ l'; rfl
        | cons a l ih =>
          intro f h l'
          obtain ⟨a1, a2⟩ := a
          have h1 : (f == a1) = false := by
            have := h (a1, a2) List.mem_cons_self
            simp at this ⊢
            exact fun z => this z.symm
          simp only [List.cons_append, List.lookup_cons, h1]
          exact ih (fun x hx => h x (List.mem_cons_of_mem _ hx)) l'
      have e' : (List.zip (g :: fs) (v :: vs)).reverse = (fs.zip vs).reverse ++ [(g, v)] := by simp
      rw [e']
      simp only [List.zip_cons_cons, List.lookup_cons] at e
      by_cases hfg : f = g
      · subst hfg
        simp at e
        subst e
        refine ⟨v, ?_, Rp.flatOf (fl _ List.mem_cons_self) rv⟩
        rw [none_of]
        · simp
        · intro x hx hxf
          have := (List.of_mem_zip (List.mem_reverse.mp hx)).1
          rw [hxf] at this
          exact nd'.1 this
      · have hb : (f == g) = false := by simpa using hfg
        rw [hb] at e
        obtain ⟨v', ev, rv'⟩ := zip_lookup (fs := fs) (ps := ps) (vs := vs) (by simpa using l) nd'.2 (fun p hp => fl p (List.mem_cons_of_mem _ hp)) rr f p e
        exact ⟨v', key ev _, rv'⟩
section
variable {S : Sc} {e : Expr} {es : List Expr} {U : WA} {pos p cpos : Pos} {x : Str} {fs : List Str}
theorem js_raiseI (xn : XN S.P S.w S.K S.mg S.base x fs) (nd : fs.Nodup) (fl : fs.length ≤ 900) (ha : JA S (e :: es) U) (hk : 2 ≤ S.k) (hc : S.calm = true := by rfl) (hg : S.sc.names.lookup x = some .globalImplicit := by rfl) (hdb : (x == ("__debug__" : Str)) = false := by decide)
    (he : ∀ env, starEach (e :: es) env = (false, eval e env) :: starEach es env := by intro _; rfl) (hpl : ∀ env, (backTo cpos (starEach es env)).any (·.1) = false := by intro _; rfl) :
    JS S (.Raise (some (.Call (.Name x p) (e :: es) [] cpos)) none pos) (sRaiseI x fs U) where
  mono := fun D D' σ h l q => ha.mono _ _ _ _ _ _ (fun _ _ _ ⟨ps, a, b, c, q⟩ => ⟨ps, a, b, c, l.ex _ _ _ q⟩) l.ex q
  run := fun X W A tk hp => by
    obtain ⟨C, fI, fd, g, T, iC, tI, F1, bi⟩ := xn.ex
    have k := A.K
    have F1' : FnOk X.prog X.w X.K X.mg X.base CX0 1 fI fd ("self" :: fs) (spInit X.K C fs) := by rw [A.P, A.w, A.K, A.mg, A.base]; exact F1
    refine ps_weak (ps_raise (A.calm hc) tk (pmk_oex (X := X) (C := C) (fI := fI) (ds := []) (dvs := []) (by rw [k]; exact T) (by rw [k]; exact iC) (by rw [k]; exact tI) F1' ((A.room hc).mono hk) (by rw [k]; exact bi) .nil pass0 (gl_of A hg) (by rw [A.mg]; exact g) (ha.run X W A tk) hdb (he _) (hpl _))) fun D σ H q => ?_
    obtain ⟨F, σp, h, s, q⟩ := q
    refine ⟨F, σp, h, s, ha.mono _ _ _ _ _ _ (fun es σ1 h1 ⟨ps, ee, lp, fl', q1⟩ F1 H1 vs f1 s1 rl => ?_) (fun _ _ _ z => ex_of z) q⟩
    subst ee
    have lv : vs.length = fs.length := by rw [← rl.len]; simpa using lp
    refine ⟨by omega, fun a na => ?_⟩
    refine ⟨a, vs, by simp, lv, upd_same, fun d nd' ne => ?_⟩
    have nd1 : H1 d = none := by rw [upd_ne ne] at nd'; exact nd'
    have e2 : upd (del (upd (upd (upd H1 a (exo a C none)) d (exd d (fs.zip vs).reverse)) a (exo a C (some d))) a) d (.xd (fs.zip vs).reverse) = upd H1 d (.xd (fs.zip vs).reverse) := by
      funext c
      by_cases h1 : c = d
      · subst h1; rw [upd_same, upd_same]
      · rw [upd_ne h1, upd_ne h1]
        by_cases h2 : c = a
        · subst h2; rw [del_same, na]
        · rw [del_ne h2, upd_ne h2, upd_ne h1, upd_ne h2]
    refine ⟨rfl, d, (fs.zip vs).reverse, upd_same, by rw [upd_ne ne, upd_same], nd1, ?_⟩
    rw [e2]
    refine q1 F1 _ σ _ _ (f1.trans (.new nd1)) (s1.new nd1) ⟨C, by rw [A.mg]; exact g, rfl, .inr ⟨d, _, rfl, upd_same, fun f p e => ?_⟩⟩
    exact zip_lookup lp nd fl' rl f p e
end
end PP
set_option Elab.async false
set_option linter.all false
set_option maxRecDepth 100000
set_option maxHeartbeats 1000000
namespace PP
open PySem PySem.Spec PyProof.Rows L2
open PySem.AutoSeq1 (wpAny_loadPart')
theorem tuple_mul0 (l : Addr) (items : Array Value) (n : Nat) (dd : Option Addr) (sl : Array (Option Value)) (x : Int) (u : Tok) (c0 : (decide (x < -(2 ^ 63)) || decide (x ≥ 2 ^ 63)) = false) (c1 : (items.isEmpty || x == 1) = false) (c2 : (decide (x ≤ 0) || items.isEmpty) = true) :
    Meets (Builtin.«tuple.__mul__» ⟨[.ref l, .int x u], []⟩) (fun _ R s => s.heap.get? l = some { cls := .type "tuple", dict := dd, data := .seq items n, slots := sl } ∧
      R (.ok (.ret (Value.ref s.heap.objs.size))) { s with heap := s.heap.push { cls := Value.type "tuple", data := Data.seq #[] }, toks := s.toks }) :=
  .of_wp fun prog w A R s h => by
    obtain ⟨hp, g, d, tk, os⟩ := s
    obtain ⟨hl, h⟩ := h
    have f1 := AutoSeq1.idx_int
    wp_walk using wpAny_loadPart' hl
    repeat (first
      | (refine wpAny_ite_false (decide_eq_false (by rw [c0]; exact Bool.false_ne_true)) ?_; wp_walk using wpAny_loadPart' hl)
      | (refine wpAny_ite_false (decide_eq_false (by rw [c1]; exact Bool.false_ne_true)) ?_; wp_walk using wpAny_loadPart' hl)
      | (refine wpAny_ite_true (decide_eq_true (by rw [c2])) ?_; wp_walk using wpAny_loadPart' hl))
    exact ⟨_, rfl, h⟩
theorem tuple_mul1 (l : Addr) (items : Array Value) (n : Nat) (dd : Option Addr) (sl : Array (Option Value)) (u : Tok) :
    Meets (Builtin.«tuple.__mul__» ⟨[.ref l, .int 1 u], []⟩) (fun _ R s => s.heap.get? l = some { cls := .type "tuple", dict := dd, data := .seq items n, slots := sl } ∧
      R (.ok (.ret (Value.ref l))) s) :=
  .of_wp fun prog w A R s h => by
    obtain ⟨hp, g, d, tk, os⟩ := s
    obtain ⟨hl, h⟩ := h
    have f1 := AutoSeq1.idx_int
    have c0 : (decide ((1 : Int) < -(2 ^ 63)) || decide ((1 : Int) ≥ 2 ^ 63)) = false := by decide
    have c1 : (items.isEmpty || (1 : Int) == 1) = true := by simp
    wp_walk using wpAny_loadPart' hl
    repeat (first
      | (refine wpAny_ite_false (decide_eq_false (by rw [c0]; exact Bool.false_ne_true)) ?_; wp_walk using wpAny_loadPart' hl)
      | (refine wpAny_ite_true (decide_eq_true (by rw [c1])) ?_; wp_walk using wpAny_loadPart' hl))
    exact ⟨_, rfl, h⟩
def rRepT0 (K : PySem.W.Frag) : R2 := fun x y H Q => ∃ l k xs, x = .ref l ∧ y = .int k ∧ SqT K H l xs ∧ xs ≠ [] ∧ -(2 ^ 63) ≤ k ∧ k ≤ 0 ∧ ∀ p, H p = none → Q (.ref p) (upd H p (.tup []))
def rRepT1 (K : PySem.W.Frag) : R2 := fun x y H Q => ∃ l xs, x = .ref l ∧ y = .int 1 ∧ SqT K H l xs ∧ Q (.ref l) H
section
variable {X : Cx}
theorem op_repT0 : OpR X (binaryOp .Mult) (rRepT0 X.K) := by
  intro pins s σ H x y v u Q I rx ry h
  obtain ⟨l, k, xs, rfl, rfl, hT, hne, h1, h2, q⟩ := h
  cases rx
  obtain ⟨t, rfl⟩ := ry
  obtain ⟨its, r, ⟨⟨cls, dd, data, sl⟩, ho, hc, n, hd⟩, hs⟩ := I.tuple hT
  simp only at hc hd
  subst hc hd
  have hle : its.length = xs.length := r.length.symm
  have hn : its ≠ [] := fun e => hne (by
    rw [e] at hle
    exact List.eq_nil_of_length_eq_zero hle.symm)
  have hi : its.toArray.isEmpty = false := by
    cases its with
    | nil => exact absurd rfl hn
    | cons a b => rfl
  have c0 : (decide (k < -(2 ^ 63)) || decide (k ≥ 2 ^ 63)) = false := by
    rw [decide_eq_false (by omega), decide_eq_false (by omega)] <;> rfl
  have c1 : (its.toArray.isEmpty || k == 1) = false := by
    rw [hi, Bool.false_or]
    exact beq_eq_false_iff_ne.mpr (by omega)
  have c2 : (decide (k ≤ 0) || its.toArray.isEmpty) = true := by
    rw [decide_eq_true h2]; rfl
  refine wpAny_binaryOp_repeat_ref (T := "tuple") (U := "int") (by decide) ⟨_, ho, rfl⟩ (fun s' => typeIs_int s' k t) noFill_tuple_mul F.fills_int_mul F.slot_int_rmul repeat_tuple F.slot_int_index.lookup
    (call_meets F.slot_int_rmul (typeIs_int s k t) F.entry_int_rmul (F.args_int_rmul_2 _ _) (int_rmul_tuple k t l its.toArray n dd sl)
      ⟨ho, rfl, ⟨_, ho, rfl⟩, call_meets F.slot_tuple_mul ⟨_, ho, rfl⟩ F.entry_tuple_mul (F.args_tuple_mul_2 _ _) (tuple_mul0 l its.toArray n dd sl k t c0 c1 c2) ⟨ho, ?_⟩⟩)
  refine ⟨.ref s.heap.objs.size, _, I.laid (t' := s.toks) (o := .tup []) (fun b ob q => Heap.get?_push_of_some _ q) (Nat.le_refl _) ?_, rfl, q _ (I.hok.fresh (Nat.le_refl _))⟩
  exact ⟨by simp, [], .nil, IsTup.new _ _⟩
theorem op_repT1 : OpR X (binaryOp .Mult) (rRepT1 X.K) := by
  intro pins s σ H x y v u Q I rx ry h
  obtain ⟨l, xs, rfl, rfl, hT, q⟩ := h
  cases rx
  obtain ⟨t, rfl⟩ := ry
  obtain ⟨its, r, ⟨⟨cls, dd, data, sl⟩, ho, hc, n, hd⟩, hs⟩ := I.tuple hT
  simp only at hc hd
  subst hc hd
  refine wpAny_binaryOp_repeat_ref (T := "tuple") (U := "int") (by decide) ⟨_, ho, rfl⟩ (fun s' => typeIs_int s' 1 t) noFill_tuple_mul F.fills_int_mul F.slot_int_rmul repeat_tuple F.slot_int_index.lookup
    (call_meets F.slot_int_rmul (typeIs_int s 1 t) F.entry_int_rmul (F.args_int_rmul_2 _ _) (int_rmul_tuple 1 t l its.toArray n dd sl)
      ⟨ho, rfl, ⟨_, ho, rfl⟩, call_meets F.slot_tuple_mul ⟨_, ho, rfl⟩ F.entry_tuple_mul (F.args_tuple_mul_2 _ _) (tuple_mul1 l its.toArray n dd sl t) ⟨ho, ?_⟩⟩)
  exact ⟨.ref l, H, I.tok _, rfl, q⟩
end
end PP
set_option Elab.async false
set_option linter.all false
set_option maxRecDepth 100000
set_option maxHeartbeats 1000000
namespace PP
open PySem PySem.Spec PyProof.Rows L2
/-! ### texts: s * n, str(..), int(text), list(text), methods -/
def CMulT (a : Str) (k : Int) : Prop := -(2 ^ 63 : Int) ≤ k ∧ k ≤ 16777216 ∧ a.length * k.toNat ≤ 16777216
instance {a : Str} {k : Int} : Decidable (CMulT a k) := inferInstanceAs (Decidable (_ ∧ _ ∧ _))
theorem CMulT.ok {a : Str} {k : Int} (c : CMulT a k) : MulOk a k := by
  obtain ⟨c1, c2, c3⟩ := c
  refine mulOk_of (x := a) (n := k) a.length k.toNat (Nat.le_refl _) (by omega) c1 (by omega) c3
section
variable {X : Cx}
theorem op_mulS : OpR X (binaryOp .Mult) (fun x y H Q => ∃ i j, x = .str i ∧ y = .int j ∧ CMulT i j ∧ Q (.str (Txt.mul i j)) H) := by
  intro pins s σ H x y v u Q I rx ry h
  obtain ⟨i, j, rfl, rfl, hz, q⟩ := h
  obtain ⟨t, rfl⟩ := rx
  obtain ⟨t', rfl⟩ := ry
  exact SB.mul hz.ok fun t' tk => ⟨.str (Txt.mul i j), H, I.tok _, ⟨_, rfl⟩, q⟩
theorem sign_vals0 : ∀ (cs : List Nat) (its : List Value), its.length = cs.length → (∀ (j : Nat) (v : Value), its[j]? = some v → ∃ (c : Nat) (u : Tok), cs[j]? = some c ∧ v = Value.str ⟨#[c]⟩ u) → Vals (cs.map fun c => V.str ⟨#[c]⟩) its
  | [], [], _, _ => .nil
  | [], _ :: _, h, _ => by cases h
  | _ :: _, [], h, _ => by cases h
  | c :: cs, x :: its, h, k => by
    obtain ⟨c', u, e1, e2⟩ := k 0 x rfl
    cases e1
    exact .cons ⟨u, e2⟩ (sign_vals0 cs its (by simpa using h) fun j v e => k (j + 1) v e)
theorem sign_vals {z : Str} (its : List Value) (h : ItemsOf (SignAt z) its.toArray z.cps.size) : Vals (z.cps.toList.map fun c => V.str ⟨#[c]⟩) its :=
  sign_vals0 _ _ (by rw [Array.length_toList]; exact h.1) fun j v e => by
    obtain ⟨c, u, e1, e2⟩ := h.2 j v (by simpa using e)
    exact ⟨c, u, by simpa using e1, e2⟩
theorem call_list_txt (hc : X.calm = true) : CallR X (.type "list") (fun xs H Q => ∃ z, xs = [.str z] ∧ z.length ≤ sizeLine ∧ ∀ l, H l = none → Q (.ref l) (upd H l (.lst (z.cps.toList.map fun c => .str ⟨#[c]⟩)))) := by
  intro pins s σ H xs us Q I r h
  obtain ⟨z, rfl, hz, q⟩ := h
  obtain ⟨u, rfl, rx⟩ := vals1 r
  obtain ⟨t, rfl⟩ := rx
  refine call_list_str (I.ok.hd hc) z t (fun h' tk acc' c' kp e hi => ?_) hz
  exact ⟨.ref s.heap.objs.size, _, I.laid (t' := tk) kp (Nat.le_refl _) (show ObjOk X.prog X.w _ h' _ (.lst _) from ⟨by rw [List.length_map, Array.length_toList]; exact hz, acc'.toList, c', sign_vals _ hi, e⟩), rfl, q _ (I.hok.fresh (Nat.le_refl _))⟩
end
section
variable {S : Sc}
def pMulS : P2 := fun x y Q => ∃ a k, x = .str a ∧ y = .int k ∧ CMulT a k ∧ Q (.val (.str (Txt.mul a k)))
theorem s_mulS : OpS S (binaryOp .Mult) pMulS where
  mono := fun x y Q Q' i ⟨a, b, e1, e2, c, q⟩ => ⟨a, b, e1, e2, c, i _ q⟩
  run := fun X A => ⟨_, op_mulS, fun F σp h σ H px py x y Q s rx ry ⟨i, j, e1, e2, c, q⟩ QV k => by
    subst e1; subst e2
    exact ⟨i, j, rx.str, ry.int, c, k F H _ _ .refl (rsv s (.str _)) q⟩⟩
def pStrI : P1 := fun ps Q => ∃ i, ps = [.int i] ∧ i.natAbs.log2 < 1920 ∧ Q (.val (.str (toString i)))
def pStrS : P1 := fun ps Q => ∃ a, ps = [.str a] ∧ Q (.val (.str a))
theorem c_strI : CallS S (.type "str") pStrI where
  mono := fun x Q Q' i ⟨a, b, c, q⟩ => ⟨a, b, c, i _ q⟩
  run := fun X A => ⟨_, call_str_int, fun F σp h σ H ps vs Q s rr ⟨i, e, c, q⟩ QV k => by
    subst e
    obtain ⟨v, rfl, r⟩ := rr.one
    rw [r.int]
    exact ⟨i, rfl, c, k F H _ _ .refl (rsv s (.str _)) q⟩⟩
theorem c_strS : CallS S (.type "str") pStrS where
  mono := fun x Q Q' i ⟨a, b, q⟩ => ⟨a, b, i _ q⟩
  run := fun X A => ⟨_, SkE.call_str_str, fun F σp h σ H ps vs Q s rr ⟨i, e, q⟩ QV k => by
    subst e
    obtain ⟨v, rfl, r⟩ := rr.one
    rw [r.str]
    exact ⟨i, rfl, k F H _ _ .refl (rsv s (.str _)) q⟩⟩
def pIntT : P1 := fun ps Q => ∃ a n, ps = [.str a] ∧ PySem.intText? a = some n ∧ a.length ≤ 640 ∧ Q (.val (.int n))
theorem c_intT : CallS S (.type "int") pIntT where
  mono := fun x Q Q' i ⟨a, n, b, c, d, q⟩ => ⟨a, n, b, c, d, i _ q⟩
  run := fun X A => ⟨_, call_int_str, fun F σp h σ H ps vs Q s rr ⟨i, n, e, c, d, q⟩ QV k => by
    subst e
    obtain ⟨v, rfl, r⟩ := rr.one
    rw [r.str]
    exact ⟨i, n, rfl, c, d, k F H _ _ .refl (rsv s (.int _)) q⟩⟩
def pOrd : P1 := fun ps Q => ∃ x, ps = [.str x] ∧ x.length = 1 ∧ Q (.val (.int (x.cps.getD 0 0 : Nat)))
theorem c_ord : CallS S (.builtin "ord") pOrd where
  mono := fun x Q Q' i ⟨a, b, c, q⟩ => ⟨a, b, c, i _ q⟩
  run := fun X A => ⟨_, call_ord, fun F σp h σ H ps vs Q s rr ⟨i, e, c, q⟩ QV k => by
    subst e
    obtain ⟨v, rfl, r⟩ := rr.one
    rw [r.str]
    exact ⟨i, rfl, c, k F H _ _ .refl (rsv s (.int _)) q⟩⟩
theorem RpL.signs {K : PySem.W.Frag} {H : Hp} {F : Addr → Prop} : ∀ cs : List Nat, RpL K H F (cs.map fun c => .str ⟨#[c]⟩) (cs.map fun c => .str ⟨#[c]⟩)
  | [] => .nil
  | c :: cs => .cons (.str _) (RpL.signs cs)
def pLstT : P1 := fun ps Q => ∃ z, ps = [.str z] ∧ z.length ≤ sizeLine ∧ Q (.own (.lst (sgP z)))
theorem c_listT (hc : S.calm = true) : CallS S (.type "list") pLstT where
  mono := fun x Q Q' i ⟨a, b, c, q⟩ => ⟨a, b, c, i _ q⟩
  run := fun X A => ⟨_, call_list_txt (A.calm hc), fun F σp h σ H ps vs Q s rr ⟨z, e, c, q⟩ QV k => by
    subst e
    obtain ⟨v, rfl, r⟩ := rr.one
    rw [r.str]
    exact ⟨z, rfl, c, fun p n => k F _ _ _ (.new n) (RS.new (o := .lst (sgP z)) s n ⟨_, rfl, RpL.signs _⟩ rfl) q⟩⟩
end
section
variable {S : Sc} {x : Str} {pos : Pos}
theorem je_gi {i : Int} (hm : ∃ t, S.mg x = some (.int i t)) (hg : S.sc.names.lookup x = some .globalImplicit := by rfl) (hd : (x == ("__debug__" : Str)) = false := by decide) : JE S (.Name x pos) (wC (.int i)) := by
  obtain ⟨t, e⟩ := hm
  exact je_g (v := .int i) e ⟨t, rfl⟩ (fun _ _ => .int i) hg hd
theorem je_gs {i : Str} (hm : ∃ t, S.mg x = some (.str i t)) (hg : S.sc.names.lookup x = some .globalImplicit := by rfl) (hd : (x == ("__debug__" : Str)) = false := by decide) : JE S (.Name x pos) (wC (.str i)) := by
  obtain ⟨t, e⟩ := hm
  exact je_g (v := .str i) e ⟨t, rfl⟩ (fun _ _ => .str i) hg hd
end
/-! methods of texts -/
structure MetS (S : Sc) (name : Str) (id : String) (g : Str → List PV → Option EV) : Prop where
  slot : Slot "str" name id
  hty : typeOf (.builtin id) = pure (.type "method_descriptor")
  run : ∀ X, At S X → ∃ r, MtR X id r ∧ ∀ F σp h σ H a ps vs ez QV, Sm X.K H F σp h σ → RTL X.K H F ps vs → g a ps = some ez → (∀ F' H' z, Fr F H F' H' → RS X.K H F' σp h σ H' ez z → QV z H') → r (.str a) vs H QV
def wMet (g : Str → List PV → Option EV) (T : WE) (U : WA) : WE := fun σ h Q E => T σ h (fun ea σ1 h1 => ∃ a, ea = .val (.str a) ∧ U σ1 h1 (fun es σ2 h2 => ∃ r, g a (es.map (vw σ2 h2)) = some r ∧ Q r σ2 h2) E) E
section
variable {S : Sc} {o e : Expr} {es : List Expr} {T : WE} {U : WA} {pos apos cpos : Pos} {name : Str} {id : String} {g : Str → List PV → Option EV}
theorem wMet_mono (mt : Mono T) (mu : Mono U) : Mono (wMet g T U) := fun σ h Q Q' E E' i j q =>
  mt _ _ _ _ _ _ (fun ea σ1 h1 ⟨a, z, q⟩ => ⟨a, z, mu _ _ _ _ _ _ (fun es σ2 h2 ⟨r, e, q⟩ => ⟨r, e, i _ _ _ q⟩) j q⟩) j q
theorem LE_met (mt : Mono T) (mu : Mono U) {X : Cx} {W : WX} {r : V → List V → Hp → VK → Prop} (hr : ∀ F σp h σ H a ps vs ez QV, Sm X.K H F σp h σ → RTL X.K H F ps vs → g a ps = some ez → (∀ F' H' z, Fr F H F' H' → RS X.K H F' σp h σ H' ez z → QV z H') → r (.str a) vs H QV)
    {σ : L2.St} {H : Hp} {Q : VK} (q : LE X.K X.mg (wMet g T U) W σ H Q) :
    LE X.K X.mg T W σ H fun x H1 => tyV X.K "str" x H1 ∧ LA X.K X.mg U W σ H1 fun vs H2 => r x vs H2 Q := by
  obtain ⟨F, σp, h, s, q⟩ := q
  refine ⟨F, σp, h, s, mt _ _ _ _ _ _ (fun ea σ1 h1 ⟨a, ex, q1⟩ F1 H1 x f1 r1 => ?_) (fun _ _ _ z => z) q⟩
  have s1 := r1.sm
  subst ex
  have ex : x = .str a := r1.rt.str
  subst ex
  refine ⟨rfl, F1, σ1, h1, s1, mu _ _ _ _ _ _ (fun es σ2 h2 ⟨ez, eg, q2⟩ F2 H2 vs f2 s2 rl => ?_) (fun _ _ _ z => z.step f1) q1⟩
  exact hr F2 σ2 h2 σ H2 a _ vs ez Q s2 (rl.rt s2) eg fun F3 H3 z f3 r3 => q2 F3 H3 z ((f1.trans f2).trans f3) (r3.early ((f1.trans f2).dm))
theorem je_met (hm : MetS S name id g) (ho : JE S o T) (ha : JA S (e :: es) U)
    (hbase : ∀ env, attributeBase o name env (eval o env) = eval o env := by intro _; rfl)
    (hfew : ∀ env, ((backTo cpos (starEach (e :: es) env)).all (fun x => !x.1) && (backToKw cpos (keywordEach [] env)).all (fun x => x.1.isSome)
      && decide ((e :: es).length + ([] : List Keyword).length + (if ([] : List Keyword).isEmpty then 0 else 1) < 30)) = true := by intro _; rfl)
    (hline : (apos.endLine == cpos.line) = true := by rfl) (hs : ∀ env, starEach (e :: es) env = (false, eval e env) :: starEach es env := by intro _; rfl) (hplain : ∀ env, (backTo cpos (starEach es env)).any (·.1) = false := by intro _; rfl) :
    JE S (.Call (.Attribute o name apos) (e :: es) [] cpos) (wMet g T U) where
  mono := wMet_mono ho.mono ha.mono
  run := fun X W A tk => by
    obtain ⟨r, mr, hr⟩ := hm.run X A
    exact pe_weak (pe_bm PySem.F.plainAttrs_str hm.slot hm.hty mr (ho.run X W A tk) (ha.run X W A tk) (hbase _) (hfew _) hline (hs _) (hplain _)) fun σ H Q q => LE_met ho.mono ha.mono hr q
/-- text.index(text), of what is there -/
def gTidx : Str → List PV → Option EV := fun a ps => match ps with
  | [.str b] => match Builtin.Str.occurrences a b 0 a.length 1 with
    | i :: _ => some (.val (.int (i : Nat)))
    | [] => none
  | _ => none
theorem mt_idx : MetS S "index" "str.index" gTidx where
  slot := PySem.F.slot_str_index
  hty := PySem.F.type_str_index
  run := fun X A => ⟨_, mt_sindex, fun F σp h σ H a ps vs ez QV s rl eg k => by
    unfold gTidx at eg
    split at eg
    · rename_i b
      obtain ⟨v, rfl, r⟩ := rl.one
      rw [r.str]
      split at eg
      · rename_i i rest eo
        cases eg
        exact ⟨a, b, i, rest, rfl, rfl, eo, k F H _ .refl (rsv s (.int _))⟩
      · cases eg
    · cases eg⟩
def strL : List PV → Option (List Str)
  | [] => some []
  | .str i :: xs => (strL xs).map (i :: ·)
  | _ => none
theorem RpL.strs {K : PySem.W.Frag} {H : Hp} {F : Addr → Prop} : ∀ {ps : List PV} {vs : List V} {ns : List Str}, RpL K H F ps vs → strL ps = some ns → vs = ns.map V.str
  | _, _, _, .nil, e => by rw [strL] at e; cases e; rfl
  | _, _, ns, @RpL.cons _ _ _ p v ps vs a b, e => by
    cases a with
    | str i =>
      rw [strL] at e
      cases h : strL ps with
      | none => rw [h] at e; cases e
      | some ms => rw [h] at e; cases e; rw [List.map_cons, RpL.strs b h]
    | _ => rw [strL] at e <;> first | cases e | (intro _ z; cases z)
theorem strL_map (ns : List Str) : strL (ns.map PV.str) = some ns := by
  induction ns with
  | nil => rfl
  | cons n r ih => rw [List.map_cons, strL, ih]; rfl
def joinF (a : Str) (ys : List Str) : Option EV := if (ys.map (·.length)).sum + ys.length * a.length ≤ 16777216 then some (.val (.str (Txt.join a ys))) else none
def gJoin : Str → List PV → Option EV := fun a ps => match ps with
  | [x] => ((seqOf x).bind strL).bind (joinF a)
  | _ => none
theorem mt_jn : MetS S "join" "str.join" gJoin where
  slot := PySem.F.slot_str_join
  hty := PySem.F.type_str_join
  run := fun X A => ⟨_, mt_join, fun F σp h σ H a ps vs ez QV s rl eg k => by
    unfold gJoin at eg
    split at eg
    · rename_i x
      obtain ⟨v, rfl, r⟩ := rl.one
      cases hx : seqOf x with
      | none => rw [hx] at eg; cases eg
      | some xs =>
        rw [hx] at eg
        cases hy : strL xs with
        | none => simp only [Option.bind_some, hy, Option.bind_none] at eg; cases eg
        | some ys =>
          simp only [Option.bind_some, hy] at eg
          unfold joinF at eg
          split at eg
          · cases eg
            obtain ⟨p, vs, rfl, z, rs⟩ := r.seq hx
            rw [rs.strs hy] at z
            exact ⟨a, p, ys, rfl, rfl, z.elim (fun z => .inl z.2) (fun z => .inr z.2), by assumption, k F H _ .refl (rsv s (.str _))⟩
          · cases eg
    · cases eg⟩
def pIsB (n : Bool) : P2 := fun x y Q => ∃ a b, x = .bl a ∧ y = .bl b ∧ Q (.val (.bl (if n then !(decide (a = b)) else decide (a = b))))
theorem s_isB : OpS S (compareOp .Is) (pIsB false) where
  mono := fun x y Q Q' i ⟨a, b, e, f, q⟩ => ⟨a, b, e, f, i _ q⟩
  run := fun X A => ⟨_, op_is_bl, fun F σp h σ H px py x y Q s rx ry ⟨a, b, e, f, q⟩ QV k => by
    subst e f
    exact ⟨a, b, rx.bl, ry.bl, k F H _ _ .refl (rsv s (.bl _)) q⟩⟩
theorem s_notB : OpS S (compareOp .IsNot) (pIsB true) where
  mono := fun x y Q Q' i ⟨a, b, e, f, q⟩ => ⟨a, b, e, f, i _ q⟩
  run := fun X A => ⟨_, op_isnot_bl, fun F σp h σ H px py x y Q s rx ry ⟨a, b, e, f, q⟩ QV k => by
    subst e f
    exact ⟨a, b, rx.bl, ry.bl, k F H _ _ .refl (rsv s (.bl _)) q⟩⟩
end
end PP
set_option Elab.async false
set_option linter.all false
set_option maxRecDepth 100000
set_option maxHeartbeats 4000000
namespace PP
open PySem PySem.Spec PyProof.Rows L2
/-! ### runs: what a piece of text comes to -/
inductive Rs (α : Type) where
  | ok (a : α) (σ : PSt) (h : PH) | ex (x : PX) (σ : PSt) (h : PH) | stk | new (h : PH) (k : Addr → Rs α)
def Rs.bind {α β : Type} : Rs α → (α → PSt → PH → Rs β) → Rs β
  | .ok a σ h, k => k a σ h
  | .ex x σ h, _ => .ex x σ h
  | .stk, _ => .stk
  | .new h f, k => .new h fun p => (f p).bind k
def wp {α : Type} : Rs α → (α → PSt → PH → Prop) → EPost → Prop
  | .ok a σ h, Q, _ => Q a σ h
  | .ex x σ h, _, E => E x σ h
  | .stk, _, _ => False
  | .new h f, Q, E => ∀ p, h p = none → wp (f p) Q E
theorem wp_bind {α β : Type} {k : α → PSt → PH → Rs β} {Q : β → PSt → PH → Prop} {E : EPost} : ∀ {r : Rs α}, wp (r.bind k) Q E ↔ wp r (fun a σ h => wp (k a σ h) Q E) E
  | .ok _ _ _ => Iff.rfl
  | .ex _ _ _ => Iff.rfl
  | .stk => Iff.rfl
  | .new h f => by
    show (∀ p, h p = none → wp ((f p).bind k) Q E) ↔ ∀ p, h p = none → wp (f p) _ E
    exact forall_congr' fun p => imp_congr_right fun _ => wp_bind
theorem wp_mono {α : Type} {Q Q' : α → PSt → PH → Prop} {E E' : EPost} (i : ∀ a σ h, Q a σ h → Q' a σ h) (j : ∀ a σ h, E a σ h → E' a σ h) : ∀ {r : Rs α}, wp r Q E → wp r Q' E'
  | .ok _ _ _, q => i _ _ _ q
  | .ex _ _ _, q => j _ _ _ q
  | .stk, q => q
  | .new h f, q => fun p n => wp_mono i j (q p n)
/-- no error leaves -/
def Rs.noex {α : Type} : Rs α → Rs α
  | .ex _ _ _ => .stk
  | .new h f => .new h fun p => (f p).noex
  | r => r
theorem wp_noex {α : Type} {Q : α → PSt → PH → Prop} {E E' : EPost} : ∀ {r : Rs α}, wp r.noex Q E → wp r Q E'
  | .ok _ _ _, q => q
  | .stk, q => q
  | .new h f, q => fun p n => wp_noex (q p n)
abbrev ME := PSt → PH → Rs EV
abbrev MT := PSt → PH → Rs Bool
abbrev MA := PSt → PH → Rs (List EV)
abbrev MI := PSt → PH → Rs (List PV)
abbrev MO := PSt → PH → Rs (Option Int)
abbrev MG := PV → PSt → PH → Rs Unit
abbrev MGs := List PV → PSt → PH → Rs Unit
def up {α : Type} (R : PSt → PH → Rs α) : PSt → PH → (α → PSt → PH → Prop) → EPost → Prop := fun σ h Q E => wp (R σ h) Q E
theorem up_mono {α : Type} {R : PSt → PH → Rs α} : Mono (up R) := fun σ h Q Q' E E' i j q => wp_mono i j q
def upG (R : MG) : WG := fun p σ h Q => wp (R p σ h) (fun _ σ h => Q σ h) fun _ _ _ => False
def upGs (R : MGs) : WGs := fun p σ h Q => wp (R p σ h) (fun _ σ h => Q σ h) fun _ _ _ => False
inductive Ss where
  | nx (σ : PSt) (h : PH) | rt (e : EV) (σ : PSt) (h : PH) | bk (σ : PSt) (h : PH) | ct (σ : PSt) (h : PH) | ex (x : PX) (σ : PSt) (h : PH) | stk | new (h : PH) (k : Addr → Ss)
abbrev MS := PSt → PH → Ss
def wpS : Ss → PD → Prop
  | .nx σ h, D => D.nx σ h
  | .rt e σ h, D => D.rt e σ h
  | .bk σ h, D => D.bk σ h
  | .ct σ h, D => D.ct σ h
  | .ex x σ h, D => D.ex x σ h
  | .stk, _ => False
  | .new h f, D => ∀ p, h p = none → wpS (f p) D
theorem wpS_mono {D D' : PD} (l : PD.le D D') : ∀ {s : Ss}, wpS s D → wpS s D'
  | .nx _ _, q => l.nx _ _ q
  | .rt _ _ _, q => l.rt _ _ _ q
  | .bk _ _, q => l.bk _ _ q
  | .ct _ _, q => l.ct _ _ q
  | .ex _ _ _, q => l.ex _ _ _ q
  | .stk, q => q
  | .new h f, q => fun p n => wpS_mono l (q p n)
def upS (M : MS) : WS := fun D σ h => wpS (M σ h) D
theorem upS_mono {M : MS} : MonoS (upS M) := fun D D' σ h l q => wpS_mono l q
def bindS {α : Type} : Rs α → (α → PSt → PH → Ss) → Ss
  | .ok a σ h, k => k a σ h
  | .ex x σ h, _ => .ex x σ h
  | .stk, _ => .stk
  | .new h f, k => .new h fun p => bindS (f p) k
theorem wpS_bindS {α : Type} {k : α → PSt → PH → Ss} {D : PD} : ∀ {r : Rs α}, wpS (bindS r k) D ↔ wp r (fun a σ h => wpS (k a σ h) D) D.ex
  | .ok _ _ _ => Iff.rfl
  | .ex _ _ _ => Iff.rfl
  | .stk => Iff.rfl
  | .new h f => by
    show (∀ p, h p = none → wpS (bindS (f p) k) D) ↔ ∀ p, h p = none → wp (f p) _ _
    exact forall_congr' fun p => imp_congr_right fun _ => wpS_bindS
def Ss.seq : Ss → MS → Ss
  | .nx σ h, k => k σ h
  | .new h f, k => .new h fun p => (f p).seq k
  | s, _ => s
theorem wpS_seq {k : MS} {D : PD} : ∀ {s : Ss}, wpS (s.seq k) D ↔ wpS s { D with nx := fun σ h => wpS (k σ h) D }
  | .nx _ _ => Iff.rfl
  | .rt _ _ _ => Iff.rfl
  | .bk _ _ => Iff.rfl
  | .ct _ _ => Iff.rfl
  | .ex _ _ _ => Iff.rfl
  | .stk => Iff.rfl
  | .new h f => by
    show (∀ p, h p = none → wpS ((f p).seq k) D) ↔ ∀ p, h p = none → wpS (f p) _
    exact forall_congr' fun p => imp_congr_right fun _ => wpS_seq
/-- a loop's turn, and what follows -/
def Ss.loop : Ss → MS → Ss
  | .nx σ h, k => k σ h
  | .ct σ h, k => k σ h
  | .bk σ h, _ => .nx σ h
  | .new h f, k => .new h fun p => (f p).loop k
  | s, _ => s
theorem wpS_loop {k : MS} {D : PD} : ∀ {s : Ss}, wpS (s.loop k) D ↔ wpS s { D with nx := fun σ h => wpS (k σ h) D, ct := fun σ h => wpS (k σ h) D, bk := D.nx }
  | .nx _ _ => Iff.rfl
  | .rt _ _ _ => Iff.rfl
  | .bk _ _ => Iff.rfl
  | .ct _ _ => Iff.rfl
  | .ex _ _ _ => Iff.rfl
  | .stk => Iff.rfl
  | .new h f => by
    show (∀ p, h p = none → wpS ((f p).loop k) D) ↔ ∀ p, h p = none → wpS (f p) _
    exact forall_congr' fun p => imp_congr_right fun _ => wpS_loop
def Ss.catch : Ss → (PX → MS) → Ss
  | .ex x σ h, k => k x σ h
  | .new h f, k => .new h fun p => (f p).catch k
  | s, _ => s
theorem wpS_catch {k : PX → MS} {D : PD} : ∀ {s : Ss}, wpS (s.catch k) D ↔ wpS s { D with ex := fun x σ h => wpS (k x σ h) D }
  | .nx _ _ => Iff.rfl
  | .rt _ _ _ => Iff.rfl
  | .bk _ _ => Iff.rfl
  | .ct _ _ => Iff.rfl
  | .ex _ _ _ => Iff.rfl
  | .stk => Iff.rfl
  | .new h f => by
    show (∀ p, h p = none → wpS ((f p).catch k) D) ↔ ∀ p, h p = none → wpS (f p) _
    exact forall_congr' fun p => imp_congr_right fun _ => wpS_catch
/-- the end of an except suite whose name is slot i -/
def Ss.sui (i : Nat) : Ss → Ss
  | .nx σ h => .nx (σ.set i none) h
  | .bk σ h => .bk (σ.set i none) h
  | .ct σ h => .ct (σ.set i none) h
  | .rt e σ h => .rt e σ h
  | .new h f => .new h fun p => (f p).sui i
  | _ => .stk
theorem wpS_sui {i : Nat} {D : PD} : ∀ {s : Ss}, wpS (s.sui i) D ↔ wpS s (suiD i D)
  | .nx _ _ => Iff.rfl
  | .rt _ _ _ => Iff.rfl
  | .bk _ _ => Iff.rfl
  | .ct _ _ => Iff.rfl
  | .ex _ _ _ => Iff.rfl
  | .stk => Iff.rfl
  | .new h f => by
    show (∀ p, h p = none → wpS ((f p).sui i) D) ↔ ∀ p, h p = none → wpS (f p) _
    exact forall_congr' fun p => imp_congr_right fun _ => wpS_sui
def Ss.suiE : Ss → Ss
  | .ex _ _ _ => .stk
  | .new h f => .new h fun p => (f p).suiE
  | s => s
theorem wpS_suiE {D : PD} : ∀ {s : Ss}, wpS s.suiE D ↔ wpS s (PP.suiE D)
  | .nx _ _ => Iff.rfl
  | .rt _ _ _ => Iff.rfl
  | .bk _ _ => Iff.rfl
  | .ct _ _ => Iff.rfl
  | .ex _ _ _ => Iff.rfl
  | .stk => Iff.rfl
  | .new h f => by
    show (∀ p, h p = none → wpS (f p).suiE D) ↔ ∀ p, h p = none → wpS (f p) _
    exact forall_congr' fun p => imp_congr_right fun _ => wpS_suiE
/-! ### a def's run -/
inductive Fs where
  | ok (e : EV) (h : PH) | ex (x : PX) (h : PH) | stk | new (h : PH) (k : Addr → Fs)
abbrev FN := List PV → PH → Fs
def wpF : Fs → (EV → PH → Prop) → (PX → PH → Prop) → Prop
  | .ok e h, Q, _ => Q e h
  | .ex x h, _, E => E x h
  | .stk, _, _ => False
  | .new h f, Q, E => ∀ p, h p = none → wpF (f p) Q E
theorem wpF_mono {Q Q' : EV → PH → Prop} {E E' : PX → PH → Prop} (i : ∀ a h, Q a h → Q' a h) (j : ∀ a h, E a h → E' a h) : ∀ {r : Fs}, wpF r Q E → wpF r Q' E'
  | .ok _ _, q => i _ _ q
  | .ex _ _, q => j _ _ q
  | .stk, q => q
  | .new h f, q => fun p n => wpF_mono i j (q p n)
def upF (F : FN) : PSp := fun ps h Q E => wpF (F ps h) Q E
theorem upF_mono {F : FN} : MonoF (upF F) := fun ps h Q Q' E E' i j q => wpF_mono i j q
def toF : Ss → Fs
  | .nx _ h => .ok (.val .non) h
  | .rt e _ h => .ok e h
  | .ex x _ h => .ex x h
  | .new h f => .new h fun p => toF (f p)
  | _ => .stk
theorem wpF_toF {Q : EV → PH → Prop} {E : PX → PH → Prop} : ∀ {s : Ss}, wpF (toF s) Q E ↔ wpS s (pdF Q E)
  | .nx _ _ => Iff.rfl
  | .rt _ _ _ => Iff.rfl
  | .bk _ _ => Iff.rfl
  | .ct _ _ => Iff.rfl
  | .ex _ _ _ => Iff.rfl
  | .stk => Iff.rfl
  | .new h f => by
    show (∀ p, h p = none → wpF (toF (f p)) Q E) ↔ ∀ p, h p = none → wpS (f p) _
    exact forall_congr' fun p => imp_congr_right fun _ => wpF_toF
def lift : Fs → PSt → Rs EV
  | .ok e h, σ => .ok e σ h
  | .ex x h, σ => .ex x σ h
  | .stk, _ => .stk
  | .new h f, σ => .new h fun p => lift (f p) σ
theorem wp_lift {σ : PSt} {Q : EV → PSt → PH → Prop} {E : EPost} : ∀ {f : Fs}, wp (lift f σ) Q E ↔ wpF f (fun e h => Q e σ h) (fun x h => E x σ h)
  | .ok _ _ => Iff.rfl
  | .ex _ _ => Iff.rfl
  | .stk => Iff.rfl
  | .new h f => by
    show (∀ p, h p = none → wp (lift (f p) σ) Q E) ↔ ∀ p, h p = none → wpF (f p) _ _
    exact forall_congr' fun p => imp_congr_right fun _ => wp_lift
/-- a def by its body's run -/
def runF (N : List Str) (M : MS) : FN := fun ps h => toF (M (startP N ps) h)
theorem up_runF {N : List Str} {M : MS} : ∀ qs h Q E, upF (runF N M) qs h Q E → upS M (pdF Q E) (startP N qs) h := fun qs h Q E q => wpF_toF.mp q
/-! ### weaker readings -/
section
variable {S : Sc}
theorem JE.le {e : Expr} {T T' : WE} (a : JE S e T) (m : Mono T') (i : ∀ σ h Q E, T' σ h Q E → T σ h Q E) : JE S e T' where
  run := fun X W A tk => pe_weak (a.run X W A tk) fun σ H Q ⟨F, σp, h, s, q⟩ => ⟨F, σp, h, s, i _ _ _ _ q⟩
  mono := m
theorem JT.le {e : Expr} {T T' : WT} (a : JT S e T) (m : Mono T') (i : ∀ σ h Q E, T' σ h Q E → T σ h Q E) : JT S e T' where
  run := fun X W A tk => pt_weak (a.run X W A tk) fun σ H Q ⟨F, σp, h, s, q⟩ => ⟨F, σp, h, s, i _ _ _ _ q⟩
  mono := m
theorem pw_weak {X : Cx} {e : Expr} {t t' : TT} (p : PW X e t) (i : ∀ σ H Q, t' σ H Q → t σ H Q) : PW X e t' := ⟨fun whole pins s σ H Q I q => p.run whole pins s σ H Q I (i σ H Q q)⟩
theorem JW.le {e : Expr} {T T' : WT} (a : JW S e T) (m : Mono T') (i : ∀ σ h Q E, T' σ h Q E → T σ h Q E) : JW S e T' where
  run := fun X W A tk => pw_weak (a.run X W A tk) fun σ H Q ⟨F, σp, h, s, q⟩ => ⟨F, σp, h, s, i _ _ _ _ q⟩
  mono := m
theorem JA.le {e : List Expr} {T T' : WA} (a : JA S e T) (m : Mono T') (i : ∀ σ h Q E, T' σ h Q E → T σ h Q E) : JA S e T' where
  run := fun X W A tk => pa_weak (a.run X W A tk) fun σ H Q ⟨F, σp, h, s, q⟩ => ⟨F, σp, h, s, i _ _ _ _ q⟩
  mono := m
theorem JA2.le {e : List Expr} {T T' : WA} (a : JA2 S e T) (m : Mono T') (i : ∀ σ h Q E, T' σ h Q E → T σ h Q E) : JA2 S e T' where
  run := fun X W A tk => pa_weak (a.run X W A tk) fun σ H Q ⟨F, σp, h, s, q⟩ => ⟨F, σp, h, s, i _ _ _ _ q⟩
  mono := m
theorem JO.le {e : Option Expr} {T T' : WO} (a : JO S e T) (m : Mono T') (i : ∀ σ h Q E, T' σ h Q E → T σ h Q E) : JO S e T' where
  run := fun X W A tk => po_weak (a.run X W A tk) fun σ H Q ⟨F, σp, h, s, q⟩ => ⟨F, σp, h, s, i _ _ _ _ q⟩
  mono := m
theorem JSs.le {st : List Stmt} {T T' : WS} (a : JSs S st T) (m : MonoS T') (i : ∀ D σ h, T' D σ h → T D σ h) : JSs S st T' where
  run := fun X W A tk hp => pss_weak (a.run X W A tk hp) fun D σ H ⟨F, σp, h, s, q⟩ => ⟨F, σp, h, s, i _ _ _ q⟩
  mono := m
theorem JS.le {st : Stmt} {T T' : WS} (a : JS S st T) (m : MonoS T') (i : ∀ D σ h, T' D σ h → T D σ h) : JS S st T' where
  run := fun X W A tk hp => ps_weak (a.run X W A tk hp) fun D σ H ⟨F, σp, h, s, q⟩ => ⟨F, σp, h, s, i _ _ _ q⟩
  mono := m
end
end PP
set_option Elab.async false
set_option linter.all false
set_option maxRecDepth 100000
set_option maxHeartbeats 4000000
namespace PP
open PySem PySem.Spec PyProof.Rows L2
theorem wpb {α β : Type} {r : Rs α} {k : α → PSt → PH → Rs β} {Q : β → PSt → PH → Prop} {E : EPost} (q : wp (r.bind k) Q E) : wp r (fun a σ h => wp (k a σ h) Q E) E := wp_bind.mp q
theorem wpm {α : Type} {Q Q' : α → PSt → PH → Prop} {E : EPost} {r : Rs α} (q : wp r Q E) (i : ∀ a σ h, Q a σ h → Q' a σ h) : wp r Q' E := wp_mono i (fun _ _ _ z => z) q
def og {α : Type} : Option α → PSt → PH → Rs α
  | some a, σ, h => .ok a σ h
  | none, _, _ => .stk
theorem wp_og {α : Type} {o : Option α} {σ : PSt} {h : PH} {Q : α → PSt → PH → Prop} {E : EPost} (q : wp (og o σ h) Q E) : ∃ a, o = some a ∧ Q a σ h := by
  cases o with
  | none => exact q.elim
  | some a => exact ⟨a, rfl, q⟩
/-! ### expressions -/
def rC (p : PV) : ME := fun σ h => .ok (.val p) σ h
def getE (i : Nat) : Option (Option SV) → PSt → PH → Rs EV
  | some (some (.val p)), σ, h => .ok (.val p) σ h
  | some (some (.own _)), σ, h => .ok (.bor i) σ h
  | _, _, _ => .stk
def rV (i : Nat) : ME := fun σ h => getE i σ[i]? σ h
abbrev G2 := PV → PV → Option EV
def gP (g : G2) : P2 := fun x y Q => ∃ r, g x y = some r ∧ Q r
def r2k2 (g : G2) (ea : EV) : EV → PSt → PH → Rs EV := fun eb σ h => og (g (vw σ h (pend ea)) (vw σ h eb)) σ h
def r2k1 (g : G2) (B : ME) : EV → PSt → PH → Rs EV := fun ea σ h => (B σ h).bind (r2k2 g ea)
def r2 (g : G2) (A B : ME) : ME := fun σ h => (A σ h).bind (r2k1 g B)
def chk4 (g' : G2) (eb : EV) : EV → PSt → PH → Rs EV := fun ec σ h => og (g' (vw σ h (pend eb)) (vw σ h ec)) σ h
def chk3 (g' : G2) (C : ME) (eb : EV) : EV → PSt → PH → Rs EV
  | .val (.bl k), σ, h => if k = true then (C σ h).bind (chk4 g' eb) else .ok (.val (.bl false)) σ h
  | _, _, _ => .stk
def chk2 (g g' : G2) (C : ME) (ea : EV) : EV → PSt → PH → Rs EV := fun eb σ h => (og (g (vw σ h (pend ea)) (vw σ h (pend eb))) σ h).bind (chk3 g' C eb)
def chk1 (g g' : G2) (B C : ME) : EV → PSt → PH → Rs EV := fun ea σ h => (B σ h).bind (chk2 g g' C ea)
def rCh (g g' : G2) (A B C : ME) : ME := fun σ h => (A σ h).bind (chk1 g g' B C)
def andK (B : ME) : EV → PSt → PH → Rs EV
  | .val (.bl k), σ, h => if k = true then B σ h else .ok (.val (.bl false)) σ h
  | _, _, _ => .stk
def rAnd (A B : ME) : ME := fun σ h => (A σ h).bind (andK B)
def orK (B : ME) : EV → PSt → PH → Rs EV
  | .val (.bl k), σ, h => if k = true then .ok (.val (.bl true)) σ h else B σ h
  | _, _, _ => .stk
def rOr (A B : ME) : ME := fun σ h => (A σ h).bind (orK B)
def notK : EV → PSt → PH → Rs EV
  | .val (.bl k), σ, h => .ok (.val (.bl (!k))) σ h
  | _, _, _ => .stk
def rNot (A : ME) : ME := fun σ h => (A σ h).bind notK
def ifK (A B : ME) : Bool → PSt → PH → Rs EV := fun b σ h => if b = true then A σ h else B σ h
def rIf (C : MT) (A B : ME) : ME := fun σ h => (C σ h).bind (ifK A B)
def negK : EV → PSt → PH → Rs EV
  | .val (.int k), σ, h => .ok (.val (.int (-k))) σ h
  | _, _, _ => .stk
def rNeg (A : ME) : ME := fun σ h => (A σ h).bind negK
/-! tests -/
def truK : EV → PSt → PH → Rs Bool := fun e σ h => og (truB (vw σ h e)) σ h
def rTru (A : ME) : MT := fun σ h => (A σ h).bind truK
def andT (B : MT) : Bool → PSt → PH → Rs Bool := fun b σ h => if b = true then B σ h else .ok false σ h
def rAndT (A B : MT) : MT := fun σ h => (A σ h).bind (andT B)
def orT (B : MT) : Bool → PSt → PH → Rs Bool := fun b σ h => if b = true then .ok true σ h else B σ h
def rOrT (A B : MT) : MT := fun σ h => (A σ h).bind (orT B)
def notT : Bool → PSt → PH → Rs Bool := fun b σ h => .ok (!b) σ h
def rNotT (A : MT) : MT := fun σ h => (A σ h).bind notT
def tbK : EV → PSt → PH → Rs Bool
  | .val (.bl k), σ, h => .ok k σ h
  | _, _, _ => .stk
def rTb (A : ME) : MT := fun σ h => (A σ h).bind tbK
def rYes : MT := fun σ h => .ok true σ h
/-! arguments -/
def rNil : MA := fun σ h => .ok [] σ h
def consK2 (e : EV) : List EV → PSt → PH → Rs (List EV) := fun es σ h => .ok (e :: es) σ h
def consK1 (B : MA) : EV → PSt → PH → Rs (List EV) := fun e σ h => (B σ h).bind (consK2 (pend e))
def rCons (A : ME) (B : MA) : MA := fun σ h => (A σ h).bind (consK1 B)
def consO1 (B : MA) : EV → PSt → PH → Rs (List EV) := fun e σ h => (B σ h).bind (consK2 (keepO e))
def rCons2 (A : ME) (B : MA) : MA := fun σ h => (A σ h).bind (consO1 B)
def shS (i : Nat) : Option (Option SV) → PSt → PH → Rs PV
  | some (some (.val p)), σ, h => .ok p σ h
  | some (some (.own o)), σ, h => .ok o.pv (σ.set i (some (.val o.pv))) h
  | _, _, _ => .stk
def shR : EV → PSt → PH → Rs PV
  | .val p, σ, h => .ok p σ h
  | .own o, σ, h => .ok o.pv σ h
  | .bor i, σ, h => shS i σ[i]? σ h
def shLk (p : PV) : List PV → PSt → PH → Rs (List PV) := fun ps σ h => .ok (p :: ps) σ h
def shLR : List EV → PSt → PH → Rs (List PV)
  | [], σ, h => .ok [] σ h
  | e :: es, σ, h => (shR e σ h).bind fun p σ1 h1 => (shLR es σ1 h1).bind (shLk p)
def szK (f : List PV → EV) : List PV → PSt → PH → Rs EV := fun ps σ h => if ps.length ≤ sizeLine then .ok (f ps) σ h else .stk
def tupK : List EV → PSt → PH → Rs EV := fun es σ h => (shLR es σ h).bind (szK fun ps => .val (.tup ps))
def rTup (A : MA) : ME := fun σ h => (A σ h).bind tupK
def lstK : List EV → PSt → PH → Rs EV := fun es σ h => (shLR es σ h).bind (szK fun ps => .own (.lst ps))
def rLst (A : MA) : ME := fun σ h => (A σ h).bind lstK
abbrev GF := List PV → Option EV
def gP1 (g : GF) : P1 := fun xs Q => ∃ r, g xs = some r ∧ Q r
def bK (g : GF) : List EV → PSt → PH → Rs EV := fun es σ h => og (g (es.map (vw σ h))) σ h
def rB (g : GF) (A : MA) : ME := fun σ h => (A σ h).bind (bK g)
def rO0 : MO := fun σ h => .ok none σ h
def toI : PV → Option (Option Int)
  | .int i => some (some i)
  | _ => none
def o1K : EV → PSt → PH → Rs (Option Int) := fun e σ h => og (toI (vw σ h e)) σ h
def rO1 (A : ME) : MO := fun σ h => (A σ h).bind o1K
def gSl (x : PV) (lo hi : Option Int) : Option EV := match x with
  | .lst xs => some (.own (.lst (cutP xs lo hi)))
  | .rdl xs => some (.own (.lst (cutP xs lo hi)))
  | .tup xs => some (.val (.tup (cutP xs lo hi)))
  | .str z => if z.length ≤ sizeLine then some (.val (.str (cutS z lo hi))) else none
  | _ => none
def slK3 (e : EV) (lo : Option Int) : Option Int → PSt → PH → Rs EV := fun hi σ h => og (gSl (vw σ h (pend e)) lo hi) σ h
def slK2 (U : MO) (e : EV) : Option Int → PSt → PH → Rs EV := fun lo σ h => (U σ h).bind (slK3 e lo)
def slK1 (L U : MO) : EV → PSt → PH → Rs EV := fun e σ h => (L σ h).bind (slK2 U e)
def rSl (A : ME) (L U : MO) : ME := fun σ h => (A σ h).bind (slK1 L U)
def caK2 (F : FN) (dv : List PV) : List PV → PSt → PH → Rs EV := fun ps σ h => lift (F (ps ++ dv) h) σ
def caK1 (n : Nat) (F : FN) (dv : List PV) : List EV → PSt → PH → Rs EV := fun es σ h => if es.length = n then (shLR es σ h).bind (caK2 F dv) else .stk
def rCall (n : Nat) (F : FN) (dv : List PV) (A : MA) : ME := fun σ h => (A σ h).bind (caK1 n F dv)
/-! what is walked -/
def sqK2 : PV → PSt → PH → Rs (List PV) := fun p σ h => og (seqW p) σ h
def sqK1 : EV → PSt → PH → Rs (List PV) := fun e σ h => (shR e σ h).bind sqK2
def rSeqI (A : ME) : MI := fun σ h => (A σ h).bind sqK1
instance {i : Int} : Decidable (Fit i) := inferInstanceAs (Decidable (_ ∧ _))
instance {i j c : Int} {n : Nat} : Decidable (RgC i j c n) := inferInstanceAs (Decidable (_ ∧ _ ∧ _ ∧ _))
def rgK1 : List EV → PSt → PH → Rs (List PV)
  | [.val (.int j)], σ, h => if Fit j then .ok (rangeP 0 j.toNat) σ h else .stk
  | _, _, _ => .stk
def rRng1 (A : MA) : MI := fun σ h => (A σ h).bind rgK1
def rgK2 : List EV → PSt → PH → Rs (List PV)
  | [.val (.int i), .val (.int j)], σ, h => if Fit i ∧ Fit j then .ok (rangeP i (j - i).toNat) σ h else .stk
  | _, _, _ => .stk
def rRng2 (A : MA) : MI := fun σ h => (A σ h).bind rgK2
def rgK3 : List EV → PSt → PH → Rs (List PV)
  | [.val (.int i), .val (.int j), .val (.int c)], σ, h => if RgC i j c (Builtin.Range.rangeSize i j c).toNat then .ok (rangeC i c (Builtin.Range.rangeSize i j c).toNat) σ h else .stk
  | _, _, _ => .stk
def rRng3 (A : MA) : MI := fun σ h => (A σ h).bind rgK3
def enK2 : List PV → PSt → PH → Rs (List PV)
  | [p], σ, h => og ((seqW p).map (enumP 0)) σ h
  | _, _, _ => .stk
def enK1 : List EV → PSt → PH → Rs (List PV) := fun es σ h => (shLR es σ h).bind enK2
def rEnum (A : MA) : MI := fun σ h => (A σ h).bind enK1
/-! methods of lists -/
abbrev GM := List PV → List PV → Option (PV × List PV)
def gMP (g : GM) : List PV → List PV → (PV → List PV → Prop) → Prop := fun xs ps Q => ∃ r ys, g xs ps = some (r, ys) ∧ Q r ys
def putK (g : GM) (ps : List PV) (σ : PSt) (h : PH) : Option (PO × (PO → PSt × PH)) → Rs EV
  | some (.lst xs, put) => match g xs ps with
    | some (r, ys) => .ok (.val r) (put (.lst ys)).1 (put (.lst ys)).2
    | none => .stk
  | _ => .stk
def muK3 (g : GM) (ea : EV) : List PV → PSt → PH → Rs EV := fun ps σ h => putK g ps σ h (plc σ h (pend ea))
def muK2 (g : GM) (ea : EV) : List EV → PSt → PH → Rs EV := fun es σ h => (shLR es σ h).bind (muK3 g ea)
def isLst : PV → Bool
  | .lst _ => true
  | _ => false
def muK1 (g : GM) (A : MA) : EV → PSt → PH → Rs EV := fun ea σ h => if isLst (vw σ h (pend ea)) = true then (A σ h).bind (muK2 g ea) else .stk
def rMut (g : GM) (O : ME) (A : MA) : ME := fun σ h => (O σ h).bind (muK1 g A)
def gApp : GM := fun xs ps => match ps with
  | [y] => if xs.length < sizeLine then some (.non, xs ++ [y]) else none
  | _ => none
def gPopR : GM := fun xs ps => match ps with
  | [] => (xs[xs.length - 1]?).map fun y => (y, xs.dropLast)
  | _ => none
/-! methods of texts -/
def meK2 (g : Str → List PV → Option EV) (a : Str) : List EV → PSt → PH → Rs EV := fun es σ h => og (g a (es.map (vw σ h))) σ h
def meK1 (g : Str → List PV → Option EV) (A : MA) : EV → PSt → PH → Rs EV
  | .val (.str a), σ, h => (A σ h).bind (meK2 g a)
  | _, _, _ => .stk
def rMet (g : Str → List PV → Option EV) (O : ME) (A : MA) : ME := fun σ h => (O σ h).bind (meK1 g A)
/-! comprehensions -/
def leK4 : PV → PSt → PH → Rs (Option PV) := fun p σ h => .ok (some p) σ h
def leK3 : EV → PSt → PH → Rs (Option PV) := fun e σ h => (shR e σ h).bind leK4
def leK2 (A : ME) : Bool → PSt → PH → Rs (Option PV) := fun b σ h => if b = true then (A σ h).bind leK3 else .ok none σ h
def leK1 (C : MT) (A : ME) : Unit → PSt → PH → Rs (Option PV) := fun _ σ h => (C σ h).bind (leK2 A)
/-- one item -/
def lcE (G : MG) (C : MT) (A : ME) (x : PV) : PSt → PH → Rs (Option PV) := fun σ h => (G x σ h).bind (leK1 C A)
def lcR (G : MG) (C : MT) (A : ME) (vs : List Nat) : List PV → List PV → PSt → PH → Rs (List PV)
  | [], acc, σ, h => .ok acc σ h
  | x :: xs, acc, σ, h => (lcE G C A x σ h).noex.bind fun o σ' h' => match o with
    | some p => if acc.length < sizeLine then lcR G C A vs xs (acc ++ [p]) (wipeP σ' vs) h' else .stk
    | none => lcR G C A vs xs acc (wipeP σ' vs) h'
def lcK2 (σ1 : PSt) (vs : List Nat) : List PV → PSt → PH → Rs EV := fun ys σ h => .ok (.own (.lst ys)) (backP σ1 σ vs) h
def lcK1 (G : MG) (C : MT) (A : ME) (vs : List Nat) : List PV → PSt → PH → Rs EV := fun items σ1 h1 => (lcR G C A vs items [] (wipeP σ1 vs) h1).bind (lcK2 σ1 vs)
def rLc (I : MI) (G : MG) (C : MT) (A : ME) (vs : List Nat) : ME := fun σ h => (I σ h).bind (lcK1 G C A vs)
/-! targets -/
def tN (i : Nat) : MG := fun p σ h => .ok () (σ.set i (some (.val p))) h
def tT0 : MGs := fun ps σ h => match ps with
  | [] => .ok () σ h
  | _ => .stk
def tTk (U : MGs) (r : List PV) : Unit → PSt → PH → Rs Unit := fun _ σ h => U r σ h
def tTc (G : MG) (U : MGs) : MGs := fun ps σ h => match ps with
  | p :: r => (G p σ h).bind (tTk U r)
  | _ => .stk
def tT (n : Nat) (U : MGs) : MG := fun p σ h => match p with
  | .tup ps => if ps.length = n then U ps σ h else .stk
  | _ => .stk
def tSp (k : Int) (p : PV) : Option (PO × (PO → PSt × PH)) → Rs Unit
  | some (.lst xs, put) => match ixN xs.length k with
    | some j => .ok () (put (.lst (xs.set j p))).1 (put (.lst (xs.set j p))).2
    | none => .stk
  | _ => .stk
def tSk2 (p : PV) (eo : EV) : EV → PSt → PH → Rs Unit := fun ei σ h => match vw σ h ei with
  | .int k => tSp k p (plc σ h (pend eo))
  | _ => .stk
def tSk1 (I : ME) (p : PV) : EV → PSt → PH → Rs Unit := fun eo σ h => (I σ h).noex.bind (tSk2 p eo)
def tS (O I : ME) : MG := fun p σ h => (O σ h).noex.bind (tSk1 I p)
/-! ### statements -/
def mNx : MS := fun σ h => .nx σ h
def mBk : MS := fun σ h => .bk σ h
def mCt : MS := fun σ h => .ct σ h
def mSeq (A B : MS) : MS := fun σ h => (A σ h).seq B
def mIfK (A B : MS) : Bool → PSt → PH → Ss := fun b σ h => if b = true then A σ h else B σ h
def mIf (C : MT) (A B : MS) : MS := fun σ h => bindS (C σ h) (mIfK A B)
def dropK : EV → PSt → PH → Ss := fun _ σ h => .nx σ h
def mDrop (A : ME) : MS := fun σ h => bindS (A σ h) dropK
def retS (i : Nat) : Option (Option SV) → PSt → PH → Ss
  | some (some (.val p)), σ, h => .rt (.val p) σ h
  | some (some (.own o)), σ, h => .rt (.own o) (σ.set i none) h
  | _, _, _ => .stk
def retK : EV → PSt → PH → Ss
  | .bor i, σ, h => retS i σ[i]? σ h
  | .val p, σ, h => .rt (.val p) σ h
  | .own o, σ, h => .rt (.own o) σ h
def mRet (A : ME) : MS := fun σ h => bindS (A σ h) retK
def mRetN : MS := fun σ h => .rt (.val .non) σ h
def setK2 (i : Nat) : PV → PSt → PH → Ss := fun p σ h => .nx (σ.set i (some (.val p))) h
def setK (i : Nat) : EV → PSt → PH → Ss
  | .own o, σ, h => .nx (σ.set i (some (.own o))) h
  | .val p, σ, h => .nx (σ.set i (some (.val p))) h
  | .bor j, σ, h => bindS (shR (.bor j) σ h) (setK2 i)
def mSet (i : Nat) (A : ME) : MS := fun σ h => bindS (A σ h) (setK i)
def shOk (e : EV) : List EV → PSt → PH → Rs (List EV) := fun es σ h => .ok (e :: es) σ h
def shOR : List EV → PSt → PH → Rs (List EV)
  | [], σ, h => .ok [] σ h
  | .own o :: es, σ, h => (shOR es σ h).bind (shOk (.own o))
  | .val p :: es, σ, h => (shOR es σ h).bind (shOk (.val p))
  | .bor i :: es, σ, h => (shR (.bor i) σ h).bind fun p σ1 h1 => (shOR es σ1 h1).bind (shOk (.val p))
def parK2 (is : List Nat) : List EV → PSt → PH → Ss := fun es σ h => if is.length = es.length then .nx (putEs σ is es) h else .stk
def parK1 (is : List Nat) : List EV → PSt → PH → Ss := fun es σ h => if is.length = es.length then bindS (shOR es σ h) (parK2 is) else .stk
def mPar (is : List Nat) (A : MA) : MS := fun σ h => bindS (A σ h) (parK1 is)
def nxK : Unit → PSt → PH → Ss := fun _ σ h => .nx σ h
def asgK2 (G : MG) : PV → PSt → PH → Ss := fun p σ h => bindS (G p σ h).noex nxK
def asgK1 (G : MG) : EV → PSt → PH → Ss := fun e σ h => bindS (shR e σ h) (asgK2 G)
def mAsg (A : ME) (G : MG) : MS := fun σ h => bindS (A σ h) (asgK1 G)
def forR (G : MG) (B : MS) : List PV → MS
  | [], σ, h => .nx σ h
  | x :: xs, σ, h => bindS (G x σ h).noex fun _ σ1 h1 => (B σ1 h1).loop (forR G B xs)
def mFor (I : MI) (G : MG) (B : MS) : MS := fun σ h => bindS (I σ h) (forR G B)
def whR (C : MT) (B : MS) : Nat → MS
  | 0, _, _ => .stk
  | n + 1, σ, h => bindS (C σ h) fun b σ1 h1 => if b = true then (B σ1 h1).loop (whR C B n) else .nx σ1 h1
def FUEL : Nat := 1000000000000
@[irreducible] def mWh (C : MT) (B : MS) : MS := whR C B FUEL
def raiseK (x : PX) : List EV → PSt → PH → Ss := fun es σ h => if es.length ≤ 1000 then .ex x σ h else .stk
def mRaise (x : PX) (A : MA) : MS := fun σ h => bindS (A σ h) (raiseK x)
def valsOf : List EV → Option (List PV)
  | [] => some []
  | .val p :: es => (valsOf es).map (p :: ·)
  | _ => none
def raiseIX (x : Str) (fs : List Str) (σ : PSt) (h : PH) : Option (List PV) → Ss
  | some ps => if ps.length = fs.length ∧ ps.all flatE = true then .ex ⟨x, fs.zip ps⟩ σ h else .stk
  | none => .stk
def raiseIK (x : Str) (fs : List Str) : List EV → PSt → PH → Ss := fun es σ h => raiseIX x fs σ h (valsOf es)
def mRaiseI (x : Str) (fs : List Str) (A : MA) : MS := fun σ h => bindS (A σ h) (raiseIK x fs)
abbrev Tb := Str → Option Bool
def tryK (tb : Tb) (i : Nat) (U : PX → MS) : PX → MS := fun x σ h => match tb x.cls with
  | some true => if i < σ.length then (U x (σ.set i (some (.val .bad))) h).sui i else .stk
  | some false => .ex x σ h
  | none => .stk
def mTry (tb : Tb) (i : Nat) (B : MS) (U : PX → MS) : MS := fun σ h => (B σ h).catch (tryK tb i U)
def tryOK (tb : Tb) (U : MS) : PX → MS := fun x σ h => match tb x.cls with
  | some true => (U σ h).suiE
  | some false => .ex x σ h
  | none => .stk
def mTryO (tb : Tb) (B U : MS) : MS := fun σ h => (B σ h).catch (tryOK tb U)
def rXI (tb : Tb) (x : PX) : ME := fun σ h => og ((tb x.cls).map fun b => .val (.bl b)) σ h
def rIfX (o : Option Bool) (A B : ME) : ME := fun σ h => match o with
  | some true => A σ h
  | some false => B σ h
  | none => .stk
def mIfX (o : Option Bool) (A B : MS) : MS := fun σ h => match o with
  | some true => A σ h
  | some false => B σ h
  | none => .stk
def rXF (tb : Str → Bool) (x : PX) (f : Str) : ME := fun σ h => if tb x.cls = true then og ((x.fs.lookup f).map .val) σ h else .stk
/-- a name's list goes into the heap -/
def layK (i : Nat) : Option (Option SV) → PSt → PH → Ss
  | some (some (.own o)), σ, h => .new h fun p => .nx (σ.set i (some (.val (.ref p)))) (updP h p o)
  | _, σ, h => .nx σ h
def mLay (i : Nat) (A : MS) : MS := fun σ h => (A σ h).seq fun σ1 h1 => layK i σ1[i]? σ1 h1
end PP
set_option Elab.async false
set_option linter.all false
set_option maxRecDepth 100000
set_option maxHeartbeats 4000000
namespace PP
open PySem PySem.Spec PyProof.Rows L2
section
variable {S : Sc} {e : Expr} {es : List Expr} {σ : PSt} {h : PH} {Q : EV → PSt → PH → Prop} {QT : Bool → PSt → PH → Prop} {QA : List EV → PSt → PH → Prop} {QI : List PV → PSt → PH → Prop} {QO : Option Int → PSt → PH → Prop} {E : EPost}
  {A B C : ME} {U V : MT} {L L' : MA} {I : MI} {O O' : MO} {g g' : G2} {i n : Nat} {p : PV}
theorem wpS_to {s : Ss} {D D' : PD} (q : wpS s D) (l : PD.le D D') : wpS s D' := wpS_mono l q
theorem x_C (a : JE S e (wC p)) : JE S e (up (rC p)) := a.le up_mono fun σ h Q E q => q
theorem x_V (a : JE S e (wV i)) : JE S e (up (rV i)) := a.le up_mono fun σ h Q E q => by
  have q : wp (getE i σ[i]? σ h) Q E := q
  unfold wV
  match hs : σ[i]?, q with
  | some (some (.val p)), q => exact q
  | some (some (.own p)), q => exact q
  | some none, q => exact q.elim
  | none, q => exact q.elim
theorem x_2 (a : JE S e (w2 (gP g) (up A) (up B))) : JE S e (up (r2 g A B)) := a.le up_mono fun σ h Q E q => wpm (wpb q) fun ea σ1 h1 q => wpm (wpb q) fun eb σ2 h2 q => wp_og q
theorem x_ch (a : JE S e (wChain (gP g) (gP g') (up A) (up B) (up C))) : JE S e (up (rCh g g' A B C)) := a.le up_mono fun σ h Q E q => wpm (wpb q) fun ea σ1 h1 q => wpm (wpb q) fun eb σ2 h2 q => by
  obtain ⟨r, er, q⟩ := wp_og (wpb q)
  refine ⟨r, er, ?_⟩
  match r, q with
  | .val (.bl k), q =>
    refine ⟨k, rfl, ?_⟩
    cases k with
    | true => rw [if_pos rfl]; exact wpm (wpb q) fun ec σ3 h3 q => wp_og q
    | false => exact q
theorem x_and (a : JE S e (wAndV (up A) (up B))) : JE S e (up (rAnd A B)) := a.le up_mono fun σ h Q E q => wpm (wpb q) fun ea σ1 h1 q => by
  match ea, q with
  | .val (.bl k), q =>
    refine ⟨k, rfl, ?_⟩
    cases k <;> exact q
theorem x_or (a : JE S e (wOrV (up A) (up B))) : JE S e (up (rOr A B)) := a.le up_mono fun σ h Q E q => wpm (wpb q) fun ea σ1 h1 q => by
  match ea, q with
  | .val (.bl k), q =>
    refine ⟨k, rfl, ?_⟩
    cases k <;> exact q
theorem x_not (a : JE S e (wNotV (up A))) : JE S e (up (rNot A)) := a.le up_mono fun σ h Q E q => wpm (wpb q) fun ea σ1 h1 q => by
  match ea, q with
  | .val (.bl k), q => exact ⟨k, rfl, q⟩
theorem x_if (a : JE S e (wIf (up U) (up A) (up B))) : JE S e (up (rIf U A B)) := a.le up_mono fun σ h Q E q => wpm (wpb q) fun b σ1 h1 q => by
  cases b <;> exact q
theorem x_neg (a : JE S e (wNeg (up A))) : JE S e (up (rNeg A)) := a.le up_mono fun σ h Q E q => wpm (wpb q) fun ea σ1 h1 q => by
  match ea, q with
  | .val (.int k), q => exact ⟨k, rfl, q⟩
theorem x_tru (a : JT S e (wTru (up A))) : JT S e (up (rTru A)) := a.le up_mono fun σ h Q E q => wpm (wpb q) fun ea σ1 h1 q => wp_og q
theorem x_tb (a : JT S e (wTb (up A))) : JT S e (up (rTb A)) := a.le up_mono fun σ h Q E q => wpm (wpb q) fun ea σ1 h1 q => by
  match ea, q with
  | .val (.bl k), q => exact ⟨k, rfl, q⟩
theorem x_andT (a : JW S e (wAndT (up U) (up V))) : JW S e (up (rAndT U V)) := a.le up_mono fun σ h Q E q => wpm (wpb q) fun b σ1 h1 q => by
  cases b <;> exact q
theorem x_orT (a : JW S e (wOrT (up U) (up V))) : JW S e (up (rOrT U V)) := a.le up_mono fun σ h Q E q => wpm (wpb q) fun b σ1 h1 q => by
  cases b <;> exact q
theorem x_notT (a : JT S e (wNotT (up U))) : JT S e (up (rNotT U)) := a.le up_mono fun σ h Q E q => wpm (wpb q) fun b σ1 h1 q => q
theorem JTs.le {e : List Expr} {T T' : WT} (a : JTs S e T) (m : Mono T') (i : ∀ σ h Q E, T' σ h Q E → T σ h Q E) : JTs S e T' where
  run := fun X W A tk => pts_weak (a.run X W A tk) fun σ H Q ⟨F, σp, h, s, q⟩ => ⟨F, σp, h, s, i _ _ _ _ q⟩
  mono := m
theorem x_yes (a : JTs S es wYes) : JTs S es (up rYes) := a.le up_mono fun σ h Q E q => q
theorem x_nil (a : JA S es wNil) : JA S es (up rNil) := a.le up_mono fun σ h Q E q => q
theorem x_cons (a : JA S es (wCons (up A) (up L))) : JA S es (up (rCons A L)) := a.le up_mono fun σ h Q E q => wpm (wpb q) fun ea σ1 h1 q => wpm (wpb q) fun eb σ2 h2 q => q
theorem x_nil2 (a : JA2 S es wNil) : JA2 S es (up rNil) := a.le up_mono fun σ h Q E q => q
theorem x_cons2 (a : JA2 S es (wCons2 (up A) (up L))) : JA2 S es (up (rCons2 A L)) := a.le up_mono fun σ h Q E q => wpm (wpb q) fun ea σ1 h1 q => wpm (wpb q) fun eb σ2 h2 q => q
theorem wp_shR {x : EV} {QP : PV → PSt → PH → Prop} (q : wp (shR x σ h) QP E) : share x σ h QP := by
  cases x with
  | val p => exact q
  | own o => exact q
  | bor i =>
    have q : wp (shS i σ[i]? σ h) QP E := q
    show shareB i σ h QP
    unfold shareB
    match hs : σ[i]?, q with
    | some (some (.val p)), q => exact q
    | some (some (.own p)), q => exact .inl q
    | some none, q => exact q.elim
    | none, q => exact q.elim
theorem wp_shLR : ∀ {xs : List EV} {σ : PSt} {h : PH} {QP : List PV → PSt → PH → Prop}, wp (shLR xs σ h) QP E → shareL xs σ h QP
  | [], _, _, _, q => q
  | x :: xs, _, _, _, q => share_mono (fun p σ1 h1 q => wp_shLR (wpm (wpb (k := shLk p) q) fun _ _ _ z => z)) (wp_shR (wpb q))
theorem wp_sz {f : List PV → EV} {ps : List PV} (q : wp (szK f ps σ h) Q E) : ps.length ≤ sizeLine ∧ Q (f ps) σ h := by
  unfold szK at q
  split at q
  · exact ⟨by assumption, q⟩
  · exact q.elim
theorem x_tup (a : JE S e (wTup (up L))) : JE S e (up (rTup L)) := a.le up_mono fun σ h Q E q => wpm (wpb q) fun ea σ1 h1 q => wp_shLR (wpm (wpb q) fun _ _ _ q => wp_sz q)
theorem x_lst (a : JE S e (wLst (up L))) : JE S e (up (rLst L)) := a.le up_mono fun σ h Q E q => wpm (wpb q) fun ea σ1 h1 q => wp_shLR (wpm (wpb q) fun _ _ _ q => wp_sz q)
theorem x_B {g : GF} (a : JE S e (wB (gP1 g) (up L))) : JE S e (up (rB g L)) := a.le up_mono fun σ h Q E q => wpm (wpb q) fun ea σ1 h1 q => wp_og q
theorem x_O0 {e : Option Expr} (a : JO S e wO0) : JO S e (up rO0) := a.le up_mono fun σ h Q E q => q
theorem x_O1 {e : Option Expr} (a : JO S e (wO1 (up A))) : JO S e (up (rO1 A)) := a.le up_mono fun σ h Q E q => wpm (wpb q) fun ea σ1 h1 q => by
  obtain ⟨r, er, q⟩ := wp_og q
  cases ev : vw σ1 h1 ea with
  | int i => rw [ev] at er; cases er; exact ⟨i, rfl, q⟩
  | _ => rw [ev] at er; cases er
theorem gSl_ok {x : PV} {lo hi : Option Int} {r : EV} {Q : EV → Prop} (er : gSl x lo hi = some r) (q : Q r) : pSl x lo hi Q := by
  unfold gSl at er
  unfold pSl
  split at er
  · cases er; exact q
  · cases er; exact q
  · cases er; exact q
  · split at er
    · cases er; exact ⟨by assumption, q⟩
    · cases er
  · cases er
theorem x_sl (a : JE S e (wSl (up A) (up O) (up O'))) : JE S e (up (rSl A O O')) := a.le up_mono fun σ h Q E q => wpm (wpb q) fun ea σ1 h1 q => wpm (wpb q) fun lo σ2 h2 q => wpm (wpb q) fun hi σ3 h3 q => by
  obtain ⟨r, er, q⟩ := wp_og q
  exact gSl_ok er q
theorem x_call {F : FN} {dv : List PV} (a : JE S e (wCallN n (upF F) dv (up L))) : JE S e (up (rCall n F dv L)) := a.le up_mono fun σ h Q E q => wpm (wpb q) fun ea σ1 h1 q => by
  unfold caK1 at q
  split at q
  · exact ⟨by assumption, wp_shLR (wpm (wpb q) fun ps σ2 h2 q => wp_lift.mp q)⟩
  · exact q.elim
theorem JI.le {tg : Expr} {T T' : WI} (a : JI S tg e T) (m : Mono T') (i : ∀ σ h Q E, T' σ h Q E → T σ h Q E) : JI S tg e T' where
  run := fun X W A tk => pi_weak (a.run X W A tk) fun σ H Q ⟨F, σp, h, s, q⟩ => ⟨F, σp, h, s, i _ _ _ _ q⟩
  mono := m
theorem x_seqI {tg : Expr} (a : JI S tg e (wSeq (up A))) : JI S tg e (up (rSeqI A)) := a.le up_mono fun σ h Q E q => wpm (wpb q) fun ea σ1 h1 q => wp_shR (wpm (wpb q) fun p σ2 h2 q => wp_og q)
theorem x_rng1 {tg : Expr} (a : JI S tg e (wRng1 (up L))) : JI S tg e (up (rRng1 L)) := a.le up_mono fun σ h Q E q => wpm (wpb q) fun ea σ1 h1 q => by
  unfold rgK1 at q
  split at q
  · split at q
    · exact ⟨_, rfl, by assumption, q⟩
    · exact q.elim
  · exact q.elim
theorem x_rng2 {tg : Expr} (a : JI S tg e (wRng2 (up L))) : JI S tg e (up (rRng2 L)) := a.le up_mono fun σ h Q E q => wpm (wpb q) fun ea σ1 h1 q => by
  unfold rgK2 at q
  split at q
  · split at q
    · rename_i z; exact ⟨_, _, rfl, z.1, z.2, q⟩
    · exact q.elim
  · exact q.elim
theorem x_rng3 {tg : Expr} (a : JI S tg e (wRng3 (up L))) : JI S tg e (up (rRng3 L)) := a.le up_mono fun σ h Q E q => wpm (wpb q) fun ea σ1 h1 q => by
  unfold rgK3 at q
  split at q
  · split at q
    · exact ⟨_, _, _, _, rfl, by assumption, q⟩
    · exact q.elim
  · exact q.elim
theorem x_enum {tg : Expr} (a : JI S tg e (wEnum (up L))) : JI S tg e (up (rEnum L)) := a.le up_mono fun σ h Q E q => wpm (wpb q) fun ea σ1 h1 q => wp_shLR (wpm (wpb q) fun ps σ2 h2 q => by
  unfold enK2 at q
  split at q
  · obtain ⟨r, er, q⟩ := wp_og q
    rename_i pp _
    cases hs : seqW pp with
    | none => rw [hs] at er; cases er
    | some xs => rw [hs] at er; cases er; exact ⟨_, _, rfl, hs, q⟩
  · exact q.elim)
theorem x_met {gt : Str → List PV → Option EV} (a : JE S e (wMet gt (up A) (up L))) : JE S e (up (rMet gt A L)) := a.le up_mono fun σ h Q E q => wpm (wpb q) fun ea σ1 h1 q => by
  match ea, q with
  | .val (.str z), q => exact ⟨z, rfl, wpm (wpb q) fun es σ2 h2 q => wp_og q⟩
theorem x_mut {gm : GM} (a : JE S e (wMut (gMP gm) (up A) (up L))) : JE S e (up (rMut gm A L)) := a.le up_mono fun σ h Q E q => wpm (wpb q) fun ea σ1 h1 q => by
  unfold muK1 at q
  split at q
  · rename_i hl
    refine ⟨?_, wpm (wpb q) fun es σ2 h2 q => wp_shLR (wpm (wpb q) fun ps σ3 h3 q => ?_)⟩
    · match vw σ1 h1 (pend ea), hl with
      | .lst xs, _ => exact ⟨xs, rfl⟩
    · have q : wp (putK gm ps σ3 h3 (plc σ3 h3 (pend ea))) Q E := q
      match hp : plc σ3 h3 (pend ea), q with
      | some (.lst xs, put), q =>
        unfold putK at q
        simp only at q
        split at q
        · rename_i r ys hg
          exact ⟨xs, put, rfl, r, ys, hg, q⟩
        · exact q.elim
      | some (.dK xs, put), q => exact q.elim
      | some (.ins _ _, put), q => exact q.elim
      | none, q => exact q.elim
  · exact q.elim
/-! comprehensions -/
variable {G : MG} {Gs : MGs} {vs : List Nat}
theorem wp_lcE {x : PV} {acc : List PV} {N : List PV → PSt → PH → Prop} (q : wp (lcE G U A x σ h) (fun o σ' h' => match o with | some p => acc.length < sizeLine ∧ N (acc ++ [p]) σ' h' | none => N acc σ' h') fun _ _ _ => False) : lcStep (upG G) (up U) (up A) x acc σ h N :=
  wpm (wpb q) fun _ σ1 h1 q => wpm (wpb q) fun b σ2 h2 q => by
    cases b with
    | true => exact wpm (wpb q) fun e σ3 h3 q => wp_shR (wpm (wpb q) fun p σ4 h4 q => q)
    | false => exact q
theorem wp_lcR : ∀ {items acc : List PV} {σ : PSt} {h : PH} {N : List PV → PSt → PH → Prop}, wp (lcR G U A vs items acc σ h) N E → lcGo (upG G) (up U) (up A) vs items acc σ h N
  | [], _, _, _, _, q => q
  | x :: xs, acc, σ, h, N, q => by
    refine wp_lcE (wp_noex (wpm (wpb q) fun o σ' h' q => ?_))
    cases o with
    | none => exact wp_lcR q
    | some p =>
      simp only at q
      split at q
      · exact ⟨by assumption, wp_lcR q⟩
      · exact q.elim
theorem x_lc (a : JE S e (wLc (up I) (upG G) (up U) (up A) vs)) : JE S e (up (rLc I G U A vs)) := a.le up_mono fun σ h Q E q => wpm (wpb q) fun items σ1 h1 q => wp_lcR (wpm (wpb q) fun ys σ2 h2 q => q)
/-! targets -/
theorem JG.le {tg : Expr} {ix : List Nat} {T T' : WG} (a : JG S tg ix T) (m : ∀ p σ h Q Q', (∀ σ h, Q σ h → Q' σ h) → T' p σ h Q → T' p σ h Q') (i : ∀ p σ h Q, T' p σ h Q → T p σ h Q) : JG S tg ix T' where
  run := fun X A => pg_weak (a.run X A) fun v σ H Q ⟨F, σp, h, p, s, r, q⟩ => ⟨F, σp, h, p, s, r, i _ _ _ _ q⟩
  mono := m
theorem upG_mono : ∀ p σ h Q Q', (∀ σ h, Q σ h → Q' σ h) → upG G p σ h Q → upG G p σ h Q' := fun p σ h Q Q' i q => wpm q fun _ _ _ z => i _ _ z
theorem JGs.le {tg : List Expr} {ix : List Nat} {T T' : WGs} (a : JGs S tg ix T) (m : ∀ p σ h Q Q', (∀ σ h, Q σ h → Q' σ h) → T' p σ h Q → T' p σ h Q') (i : ∀ p σ h Q, T' p σ h Q → T p σ h Q) : JGs S tg ix T' where
  run := fun X A => pgs_weak (a.run X A) fun v σ H Q ⟨F, σp, h, p, s, r, q⟩ => ⟨F, σp, h, p, s, r, i _ _ _ _ q⟩
  mono := m
theorem upGs_mono : ∀ p σ h Q Q', (∀ σ h, Q σ h → Q' σ h) → upGs Gs p σ h Q → upGs Gs p σ h Q' := fun p σ h Q Q' i q => wpm q fun _ _ _ z => i _ _ z
variable {tg : Expr} {tgs : List Expr} {ix : List Nat}
theorem x_gN (a : JG S tg ix (gN i)) : JG S tg ix (upG (tN i)) := a.le upG_mono fun p σ h Q q => q
theorem x_gT0 (a : JGs S tgs ix gT0) : JGs S tgs ix (upGs tT0) := a.le upGs_mono fun p σ h Q q => by
  cases p with
  | nil => exact ⟨rfl, q⟩
  | cons a b => exact q.elim
theorem x_gTc (a : JGs S tgs ix (gTc (upG G) (upGs Gs))) : JGs S tgs ix (upGs (tTc G Gs)) := a.le upGs_mono fun p σ h Q q => by
  cases p with
  | nil => exact q.elim
  | cons a b => exact ⟨a, b, rfl, wpm (wpb q) fun _ _ _ q => q⟩
theorem x_gT (a : JG S tg ix (gT n (upGs Gs))) : JG S tg ix (upG (tT n Gs)) := a.le upG_mono fun p σ h Q q => by
  unfold upG tT at q
  split at q
  · split at q
    · exact ⟨_, rfl, by assumption, q⟩
    · exact q.elim
  · exact q.elim
theorem x_gS (a : JG S tg ix (gS (up A) (up B))) : JG S tg ix (upG (tS A B)) := a.le upG_mono fun p σ h Q q => wp_noex (wpm (wpb q) fun eo σ1 h1 q => wp_noex (wpm (wpb q) fun ei σ2 h2 q => by
  unfold tSk2 at q
  split at q
  · rename_i k hk
    have q : wp (tSp k p (plc σ2 h2 (pend eo))) (fun _ σ h => Q σ h) _ := q
    match hp : plc σ2 h2 (pend eo), q with
    | some (.lst xs, put), q =>
      unfold tSp at q
      simp only at q
      split at q
      · rename_i j hj
        exact ⟨k, xs, put, j, hk, rfl, hj, q⟩
      · exact q.elim
    | some (.dK xs, put), q => exact q.elim
    | some (.ins _ _, put), q => exact q.elim
    | none, q => exact q.elim
  · exact q.elim))
end
section
variable {S : Sc} {st : Stmt} {sts : List Stmt} {σ : PSt} {h : PH} {D : PD} {A B : MS} {a b : ME} {U : MT} {L : MA} {I : MI} {G : MG} {i n : Nat}
theorem ws {α : Type} {r : Rs α} {k : α → PSt → PH → Ss} {D : PD} (q : wpS (bindS r k) D) : wp r (fun a σ h => wpS (k a σ h) D) D.ex := wpS_bindS.mp q
theorem y_nil (a : JSs S sts sNext) : JSs S sts (upS mNx) := a.le upS_mono fun D σ h q => q
theorem y_pass (a : JS S st sNext) : JS S st (upS mNx) := a.le upS_mono fun D σ h q => q
theorem y_brk (a : JS S st sBrk) : JS S st (upS mBk) := a.le upS_mono fun D σ h q => q
theorem y_cnt (a : JS S st sCnt) : JS S st (upS mCt) := a.le upS_mono fun D σ h q => q
theorem y_seq (a : JSs S sts (sSeq (upS A) (upS B))) : JSs S sts (upS (mSeq A B)) := a.le upS_mono fun D σ h q => wpS_seq.mp q
theorem y_if (a : JS S st (sIf (up U) (upS A) (upS B))) : JS S st (upS (mIf U A B)) := a.le upS_mono fun D σ h q => wpm (ws q) fun b σ1 h1 q => by
  cases b <;> exact q
theorem y_drop (z : JS S st (sDrop (up a))) : JS S st (upS (mDrop a)) := z.le upS_mono fun D σ h q => wpm (ws q) fun _ _ _ q => q
theorem y_ret (z : JS S st (sRet (up a))) : JS S st (upS (mRet a)) := z.le upS_mono fun D σ h q => wpm (ws q) fun e σ1 h1 q => by
  cases e with
  | val p => exact q
  | own p => exact q
  | bor i =>
    have q : wpS (retS i σ1[i]? σ1 h1) D := q
    show retB D i σ1 h1
    unfold retB
    match hs : σ1[i]?, q with
    | some (some (.val p)), q => exact q
    | some (some (.own p)), q => exact q
    | some none, q => exact q.elim
    | none, q => exact q.elim
theorem y_retN (z : JS S st sRetN) : JS S st (upS mRetN) := z.le upS_mono fun D σ h q => q
theorem y_set (z : JS S st (sSet i (up a))) : JS S st (upS (mSet i a)) := z.le upS_mono fun D σ h q => wpm (ws q) fun e σ1 h1 q => by
  cases e with
  | val p => exact q
  | own p => exact q
  | bor j => exact wp_shR (E := D.ex) (wpm (ws q) fun p σ2 h2 q => q)
theorem wp_shOR {E : EPost} : ∀ {xs : List EV} {σ : PSt} {h : PH} {QP : List EV → PSt → PH → Prop}, wp (shOR xs σ h) QP E → shareO xs σ h QP
  | [], _, _, _, q => q
  | .own o :: xs, _, _, _, q => wp_shOR (xs := xs) (wpm (wpb q) fun _ _ _ z => z)
  | .val p :: xs, _, _, _, q => wp_shOR (xs := xs) (wpm (wpb q) fun _ _ _ z => z)
  | .bor i :: xs, _, _, _, q => share_mono (fun p σ1 h1 q => wp_shOR (xs := xs) (wpm (wpb (k := shOk (.val p)) q) fun _ _ _ z => z)) (wp_shR (wpb q))
theorem y_par {is : List Nat} (z : JS S st (sPar is (up L))) : JS S st (upS (mPar is L)) := z.le upS_mono fun D σ h q => wpm (ws q) fun es σ1 h1 q => by
  unfold parK1 at q
  split at q
  · refine ⟨by assumption, wp_shOR (E := D.ex) (wpm (ws q) fun es' σ2 h2 q => ?_)⟩
    unfold parK2 at q
    split at q
    · exact ⟨by assumption, q⟩
    · exact q.elim
  · exact q.elim
theorem y_asg (z : JS S st (sAsg (up a) (upG G))) : JS S st (upS (mAsg a G)) := z.le upS_mono fun D σ h q => wpm (ws q) fun es σ1 h1 q => wp_shR (E := D.ex) (wpm (ws q) fun p σ2 h2 q => wp_noex (wpm (ws q) fun _ _ _ q => q))
theorem wp_forR {D : PD} : ∀ {xs : List PV} {σ : PSt} {h : PH}, wpS (forR G B xs σ h) D → forGo (upG G) (upS B) D xs σ h
  | [], _, _, q => q
  | x :: xs, σ, h, q => wp_noex (wpm (ws q) fun _ σ1 h1 q => wpS_to (wpS_loop.mp q) ⟨fun _ _ z => wp_forR z, fun _ _ _ z => z, fun _ _ z => z, fun _ _ z => wp_forR z, fun _ _ _ z => z⟩)
theorem y_for (z : JS S st (sFor (up I) (upG G) (upS B))) : JS S st (upS (mFor I G B)) := z.le upS_mono fun D σ h q => wpm (ws q) fun xs σ1 h1 q => wp_forR q
theorem y_wh (z : JS S st (sWhile (up U) (upS B))) : JS S st (upS (mWh U B)) := z.le upS_mono fun D σ h q => by
  unfold upS mWh at q
  refine ⟨fun m σ h => wpS (whR U B m σ h) D, ⟨FUEL, q⟩, fun m σ h q => ?_⟩
  cases m with
  | zero => exact q.elim
  | succ m =>
    refine wpm (ws q) fun b σ1 h1 q => ?_
    cases b with
    | false => exact q
    | true => exact wpS_to (wpS_loop.mp q) ⟨fun _ _ z => ⟨m, Nat.lt_succ_self m, z⟩, fun _ _ _ z => z, fun _ _ z => z, fun _ _ z => ⟨m, Nat.lt_succ_self m, z⟩, fun _ _ _ z => z⟩
theorem y_raise {x : PX} (z : JS S st (sRaise x (up L))) : JS S st (upS (mRaise x L)) := z.le upS_mono fun D σ h q => wpm (ws q) fun es σ1 h1 q => by
  unfold raiseK at q
  split at q
  · exact ⟨by assumption, q⟩
  · exact q.elim
theorem valsOf_ok : ∀ {es : List EV} {ps : List PV}, valsOf es = some ps → es = ps.map EV.val
  | [], ps, e => by cases e; rfl
  | .val p :: es, ps, e => by
    have e : (valsOf es).map (p :: ·) = some ps := e
    cases hv : valsOf es with
    | none => rw [hv] at e; cases e
    | some qs => rw [hv] at e; cases e; rw [valsOf_ok hv]; rfl
  | .own o :: es, ps, e => by cases e
  | .bor i :: es, ps, e => by cases e
theorem y_raiseI {x : Str} {fs : List Str} (z : JS S st (sRaiseI x fs (up L))) : JS S st (upS (mRaiseI x fs L)) := z.le upS_mono fun D σ h q => wpm (ws q) fun es σ1 h1 q => by
  have q : wpS (raiseIX x fs σ1 h1 (valsOf es)) D := q
  cases hv : valsOf es with
  | none => rw [hv] at q; exact q.elim
  | some ps =>
    rw [hv] at q
    unfold raiseIX at q
    simp only at q
    split at q
    · rename_i c
      exact ⟨ps, valsOf_ok hv, c.1, by simpa using c.2, q⟩
    · exact q.elim
theorem y_try {cv : Value} {tb : Tb} {M : PX → MS} (z : JS S st (sTry S.K S.mg cv i (upS B) fun x => upS (M x))) (ht : ∀ x b, tb x = some b → XM S.K S.mg x cv b) : JS S st (upS (mTry tb i B M)) := z.le upS_mono fun D σ h q => wpS_to (wpS_catch.mp q) ⟨fun _ _ z => z, fun _ _ _ z => z, fun _ _ z => z, fun _ _ z => z, fun x σ1 h1 q => by
    have q : wpS (tryK tb i M x σ1 h1) D := q
    unfold tryK at q
    split at q
    · rename_i e
      refine ⟨true, ht _ _ e, ?_⟩
      rw [if_pos rfl]
      split at q
      · exact ⟨by assumption, wpS_sui.mp q⟩
      · exact q.elim
    · rename_i e
      exact ⟨false, ht _ _ e, q⟩
    · exact q.elim⟩
theorem y_tryO {cv : Value} {tb : Tb} {M : MS} (z : JS S st (sTryO S.K S.mg cv (upS B) (upS M))) (ht : ∀ x b, tb x = some b → XM S.K S.mg x cv b) : JS S st (upS (mTryO tb B M)) := z.le upS_mono fun D σ h q => wpS_to (wpS_catch.mp q) ⟨fun _ _ z => z, fun _ _ _ z => z, fun _ _ z => z, fun _ _ z => z, fun x σ1 h1 q => by
    have q : wpS (tryOK tb M x σ1 h1) D := q
    unfold tryOK at q
    split at q
    · rename_i e
      refine ⟨true, ht _ _ e, ?_⟩
      rw [if_pos rfl]
      exact wpS_suiE.mp q
    · rename_i e
      exact ⟨false, ht _ _ e, q⟩
    · exact q.elim⟩
/-- a name's list goes into the heap -/
theorem y_lay (z : JS S st (upS A)) : JS S st (upS (mLay i A)) where
  mono := upS_mono
  run := fun X W At tk hp => ps_weak (z.run X W At tk hp) fun D σ H ⟨F, σp, h, s, q⟩ => by
    refine ⟨F, σp, h, s, ?_⟩
    refine wpS_to (wpS_seq.mp q) ⟨fun σ1 h1 q => ?_, fun _ _ _ z => z, fun _ _ z => z, fun _ _ z => z, fun _ _ _ z => z⟩
    have q : wpS (layK i σ1[i]? σ1 h1) (pd X.K X.mg F H D W) := q
    match hs : σ1[i]?, q with
    | some (some (.own o)), q =>
      intro F' H' σ' f' s'
      obtain ⟨a, ea, _⟩ := s'.own i o hs
      obtain ⟨n, s2⟩ := s'.lay hs ea
      exact q a n F' H' σ' f' s2
    | some (some (.val o)), q => exact q
    | some none, q => exact q
    | none, q => exact q
end
/-! except suites -/
section
variable {S : Sc} {x : PX} {i : Nat} {e : Expr} {st : Stmt} {sts : List Stmt} {A B : MS} {a b : ME} {o : Option Bool} {Bp : Bool → Prop}
theorem JEX.le {T T' : WE} (z : JEX S x i e T) (m : Mono T') (j : ∀ σ h Q E, T' σ h Q E → T σ h Q E) : JEX S x i e T' where
  run := fun X cls d a A => pe_weak (z.run X cls d a A) fun σ H Q ⟨F, σp, h, s, xa, q⟩ => ⟨F, σp, h, s, xa, j _ _ _ _ q⟩
  mono := m
theorem JSX.le {T T' : WS} (z : JSX S x i sts T) (m : MonoS T') (j : ∀ D σ h, T' D σ h → T D σ h) : JSX S x i sts T' where
  run := fun X cls d a A => pss_weak (z.run X cls d a A) fun D σ H ⟨F, σp, h, s, xa, q⟩ => ⟨F, σp, h, s, xa, j _ _ _ q⟩
  mono := m
theorem JX1.le {T T' : WS} (z : JX1 S x i st T) (m : MonoS T') (j : ∀ D σ h, T' D σ h → T D σ h) : JX1 S x i st T' where
  run := fun X cls d a A => ps_weak (z.run X cls d a A) fun D σ H ⟨F, σp, h, s, xa, q⟩ => ⟨F, σp, h, s, xa, j _ _ _ q⟩
  mono := m
theorem x_xi {cv : Value} {tb : Tb} (z : JEX S x i e (wXI S.K S.mg x cv)) (ht : ∀ x b, tb x = some b → XI S.K S.mg x cv b) : JEX S x i e (up (rXI tb x)) := z.le up_mono fun σ h Q E q => by
  obtain ⟨r, er, q⟩ := wp_og q
  cases hb : tb x.cls with
  | none => rw [hb] at er; cases er
  | some b => rw [hb] at er; cases er; exact ⟨b, ht _ _ hb, q⟩
theorem x_ifX (z : JEX S x i e (wIfP Bp (up a) (up b))) (ho : ∀ c, o = some c → Bp c) : JEX S x i e (up (rIfX o a b)) := z.le up_mono fun σ h Q E q => by
  unfold up rIfX at q
  split at q
  · exact ⟨true, ho _ rfl, q⟩
  · exact ⟨false, ho _ rfl, q⟩
  · exact q.elim
theorem x_xf {f : Str} {tb : Str → Bool} (z : JEX S x i e (wXF S.K S.mg x f)) (ht : ∀ x, tb x = true → XF S.K S.mg x f) : JEX S x i e (up (rXF tb x f)) := z.le up_mono fun σ h Q E q => by
  unfold up rXF at q
  split at q
  · rename_i hb
    obtain ⟨r, er, q⟩ := wp_og q
    cases hl : x.fs.lookup f with
    | none => rw [hl] at er; cases er
    | some p => rw [hl] at er; cases er; exact ⟨ht _ hb, p, hl, q⟩
  · exact q.elim
theorem y_xseq (z : JSX S x i sts (sSeq (upS A) (upS B))) : JSX S x i sts (upS (mSeq A B)) := z.le upS_mono fun D σ h q => wpS_seq.mp q
theorem y_xret (z : JX1 S x i st (sRet (up a))) : JX1 S x i st (upS (mRet a)) := z.le upS_mono fun D σ h q => wpm (ws q) fun e σ1 h1 q => by
  cases e with
  | val p => exact q
  | own p => exact q
  | bor i =>
    have q : wpS (retS i σ1[i]? σ1 h1) D := q
    show retB D i σ1 h1
    unfold retB
    match hs : σ1[i]?, q with
    | some (some (.val p)), q => exact q
    | some (some (.own p)), q => exact q
    | some none, q => exact q.elim
    | none, q => exact q.elim
theorem y_xif (z : JX1 S x i st (sIfP Bp (upS A) (upS B))) (ho : ∀ c, o = some c → Bp c) : JX1 S x i st (upS (mIfX o A B)) := z.le upS_mono fun D σ h q => by
  unfold upS mIfX at q
  split at q
  · exact ⟨true, ho _ rfl, q⟩
  · exact ⟨false, ho _ rfl, q⟩
  · exact q.elim
theorem tb_not {tb : Option Bool} {Bp : Bool → Prop} (h : ∀ c, tb = some c → Bp c) : ∀ c, tb.map (!·) = some c → Bp (!c) := fun c e => by
  cases tb with
  | none => cases e
  | some b => cases e; simpa using h b rfl
end
end PP
set_option Elab.async false
set_option linter.all false
set_option maxRecDepth 100000
set_option maxHeartbeats 4000000
namespace PP
open PySem PySem.Spec PyProof.Rows L2
/-! ### what operators and built-in functions come to -/
def CMulD (i j : Int) : Prop := CMul i j ∨ CMulW i j
instance {i j : Int} : Decidable (CMul i j) := inferInstanceAs (Decidable (_ ∨ _))
instance {i j : Int} : Decidable (CMulW i j) := inferInstanceAs (Decidable (_ < _))
instance {i j : Int} : Decidable (CMulD i j) := inferInstanceAs (Decidable (_ ∨ _))
instance {i j : Int} : Decidable (CDivW i j) := inferInstanceAs (Decidable (_ ∧ _))
instance {i j : Int} : Decidable (CPow i j) := inferInstanceAs (Decidable (_ ∧ _ ∧ _))
def vI (i : Int) : Option EV := some (.val (.int i))
def vB (b : Bool) : Option EV := some (.val (.bl b))
def gAdd : G2
  | .int i, .int j => vI (i + j)
  | .str a, .str b => if a.length + b.length ≤ sizeLine then some (.val (.str (a ++ b))) else none
  | .lst a, .lst b => if a.length + b.length ≤ sizeLine then some (.own (.lst (a ++ b))) else none
  | .tup a, .tup b => if a.length + b.length ≤ sizeLine then some (.val (.tup (a ++ b))) else none
  | _, _ => none
def gIAdd : G2
  | .int i, .int j => vI (i + j)
  | .str a, .str b => if a.length + b.length ≤ sizeLine then some (.val (.str (a ++ b))) else none
  | _, _ => none
def gSub : G2
  | .int i, .int j => vI (i - j)
  | _, _ => none
def repP (xs : List PV) (k : Int) : List PV := (List.replicate k.toNat xs).flatten
def gMul : G2
  | .int i, .int j => if CMulD i j then vI (i * j) else none
  | .str a, .int k => if CMulT a k then some (.val (.str (Txt.mul a k))) else none
  | .tup xs, .int k => if (-(2 ^ 63) ≤ k ∧ k ≤ 1000) ∧ xs.length ≤ 1000 ∧ xs.isEmpty = false then some (.val (.tup (repP xs k))) else none
  | .lst xs, .int k => if (-(2 ^ 63) ≤ k ∧ k < 2 ^ 63) ∧ xs.length * k.toNat ≤ sizeLine then some (.own (.lst (repP xs k))) else none
  | _, _ => none
def gIMul : G2
  | .int i, .int j => if CMul i j then vI (i * j) else none
  | _, _ => none
def gFd : G2
  | .int i, .int j => if CDivW i j then vI (i / j) else none
  | _, _ => none
def gMod : G2
  | .int i, .int j => if 0 < j then vI (i % j) else none
  | _, _ => none
def gPow : G2
  | .int i, .int j => if CPow i j then vI (i ^ j.toNat) else none
  | _, _ => none
def gLt : G2
  | .int i, .int j => vB (decide (i < j))
  | _, _ => none
def gLe : G2
  | .int i, .int j => vB (decide (i ≤ j))
  | _, _ => none
def gGt : G2
  | .int i, .int j => vB (decide (j < i))
  | _, _ => none
def gGe : G2
  | .int i, .int j => vB (decide (j ≤ i))
  | _, _ => none
def gEq : G2 := fun x y => match pEqB x y with
  | some b => vB b
  | none => none
def gNe : G2 := fun x y => match pEqB x y with
  | some b => vB (!b)
  | none => none
def gIs : G2
  | x, .non => match isNon x with
    | some b => vB b
    | none => none
  | .bl a, .bl b => vB (decide (a = b))
  | _, _ => none
def gIsN : G2
  | x, .non => match isNon x with
    | some b => vB (!b)
    | none => none
  | .bl a, .bl b => vB (!(decide (a = b)))
  | _, _ => none
def gIn : G2 := fun x y => match pInB x y with
  | some b => vB b
  | none => none
def gNin : G2 := fun x y => match pInB x y with
  | some b => vB (!b)
  | none => none
def gIx : G2
  | .str z, .int i => if z.length ≤ sizeLine then (atI z.cps.toList i).map fun c => .val (.str ⟨#[c]⟩) else none
  | .lst xs, .int i => (atI xs i).map .val
  | .tup xs, .int i => (atI xs i).map .val
  | .rdl xs, .int i => (atI xs i).map .val
  | _, _ => none
section
variable {S : Sc}
theorem gP_mono {g : G2} : ∀ x y Q Q', (∀ e, Q e → Q' e) → gP g x y Q → gP g x y Q' := fun _ _ _ _ i ⟨r, e, q⟩ => ⟨r, e, i _ q⟩
theorem z_add : OpS S (binaryOp .Add) (gP gAdd) := s_add.to gP_mono fun x y Q ⟨r, e, q⟩ => by
  unfold gAdd vI at e; unfold pAdd
  split at e <;> first | (cases e; exact q) | (split at e <;> first | (cases e; exact ⟨by assumption, q⟩) | cases e) | cases e
theorem z_iadd : OpS S (inplaceOp .Add) (gP gIAdd) := s_iadd.to gP_mono fun x y Q ⟨r, e, q⟩ => by
  unfold gIAdd vI at e; unfold pIAdd
  split at e <;> first | (cases e; exact q) | (split at e <;> first | (cases e; exact ⟨by assumption, q⟩) | cases e) | cases e
theorem i2_of {C : Int → Int → Prop} {f : Int → Int → PV} {x y : PV} {Q : EV → Prop} {i j : Int} (ex : x = .int i) (ey : y = .int j) (c : C i j) (q : Q (.val (f i j))) : pI2 C f x y Q := ⟨i, j, ex, ey, c, q⟩
theorem z_sub : OpS S (binaryOp .Sub) (gP gSub) := s_sub.to gP_mono fun x y Q ⟨r, e, q⟩ => by
  unfold gSub vI at e
  split at e <;> first | (cases e; exact i2_of rfl rfl trivial q) | cases e
theorem z_isub : OpS S (inplaceOp .Sub) (gP gSub) := s_isub.to gP_mono fun x y Q ⟨r, e, q⟩ => by
  unfold gSub vI at e
  split at e <;> first | (cases e; exact i2_of rfl rfl trivial q) | cases e
theorem s_mulW : OpS S (binaryOp .Mult) (pI2 CMulW fun i j => .int (i * j)) := ops_I (fun _ _ => op_mulW) fun _ _ _ _ _ => .int _
theorem RpL.rep {K : PySem.W.Frag} {H : Hp} {F : Addr → Prop} {xs : List PV} {vs : List V} (r : RpL K H F xs vs) : ∀ n : Nat, RpL K H F (List.replicate n xs).flatten (List.replicate n vs).flatten
  | 0 => .nil
  | n + 1 => by
    rw [List.replicate_succ, List.replicate_succ, List.flatten_cons, List.flatten_cons]
    exact r.append (RpL.rep r n)
def pRep : P2 := fun x y Q => ∃ xs k, x = .lst xs ∧ y = .int k ∧ (-(2 ^ 63) ≤ k ∧ k < 2 ^ 63) ∧ xs.length * k.toNat ≤ sizeLine ∧ Q (.own (.lst (repP xs k)))
theorem s_rep : OpS S (binaryOp .Mult) pRep where
  mono := fun x y Q Q' i ⟨a, b, e1, e2, c, d, q⟩ => ⟨a, b, e1, e2, c, d, i _ q⟩
  run := fun X A => ⟨_, op_rep, fun F σp h σ H px py x y Q s rx ry ⟨i, j, e1, e2, c, d, q⟩ QV k => by
    subst e1; subst e2
    obtain ⟨a, vs, rfl, ea, ra⟩ := rx.lst
    refine ⟨a, j, vs, rfl, ry.int, ea, c.1, c.2, by rw [← ra.length]; exact d, fun p n => ?_⟩
    exact k F _ _ _ (.new n) (RS.new (o := .lst (repP i j)) s n ⟨_, rfl, RpL.rep ra _⟩ rfl) q⟩
def pRepT : P2 := fun x y Q => ∃ xs k, x = .tup xs ∧ y = .int k ∧ ((-(2 ^ 63) ≤ k ∧ k ≤ 1000) ∧ xs.length ≤ 1000 ∧ xs.isEmpty = false) ∧ Q (.val (.tup (repP xs k)))
theorem s_repT : OpS S (binaryOp .Mult) pRepT where
  mono := fun x y Q Q' i ⟨a, b, e1, e2, c, q⟩ => ⟨a, b, e1, e2, c, i _ q⟩
  run := fun X A => ⟨_, (op_repT0.or op_repT1).or op_repT, fun F σp h σ H px py x y Q s rx ry ⟨i, j, e1, e2, ⟨c, l, ne⟩, q⟩ QV k => by
    subst e1; subst e2
    have t := Rp.tupS rx
    obtain ⟨a, vs, rfl, ea, ra⟩ := rx.tup
    have lv : i.length = vs.length := ra.length
    have ne' : vs ≠ [] := fun z => by
      rw [z] at lv
      rw [List.eq_nil_of_length_eq_zero lv] at ne
      cases ne
    by_cases j0 : j ≤ 0
    · have er : repP i j = [] := by unfold repP; rw [show j.toNat = 0 by omega]; rfl
      rw [er] at q
      exact .inl (.inl ⟨a, j, vs, rfl, ry.int, ea, ne', c.1, j0, fun p n => k F _ _ _ (.new n) (rsv (s.new n) (Rp.newTup s n .nil)) q⟩)
    · by_cases j1 : j = 1
      · subst j1
        have er : repP i 1 = i := by unfold repP; simp
        rw [er] at q
        exact .inl (.inr ⟨a, vs, rfl, ry.int, ea, k F H _ _ .refl (rsv s t) q⟩)
      · exact .inr ⟨a, j, vs, rfl, ry.int, ea, ne', by omega, c.2, by omega, fun p n => k F _ _ _ (.new n) (rsv (s.new n) (Rp.newTup s n (RpL.rep ra _))) q⟩⟩
theorem z_mul : OpS S (binaryOp .Mult) (gP gMul) := (s_mulI.or (s_mulW.or (s_rep.or (s_mulS.or s_repT)))).to gP_mono fun x y Q ⟨r, e, q⟩ => by
  unfold gMul vI at e
  split at e
  · split at e
    · rename_i c
      cases e
      exact c.elim (fun c => .inl (i2_of rfl rfl c q)) fun c => .inr (.inl (i2_of rfl rfl c q))
    · cases e
  · split at e
    · rename_i c
      cases e
      exact .inr (.inr (.inr (.inl ⟨_, _, rfl, rfl, c, q⟩)))
    · cases e
  · split at e
    · rename_i c
      cases e
      exact .inr (.inr (.inr (.inr ⟨_, _, rfl, rfl, c, q⟩)))
    · cases e
  · split at e
    · rename_i c
      cases e
      exact .inr (.inr (.inl ⟨_, _, rfl, rfl, c.1, c.2, q⟩))
    · cases e
  · cases e
theorem z_imul : OpS S (inplaceOp .Mult) (gP gIMul) := s_imul.to gP_mono fun x y Q ⟨r, e, q⟩ => by
  unfold gIMul vI at e
  split at e
  · split at e
    · cases e; exact i2_of rfl rfl (by assumption) q
    · cases e
  · cases e
theorem z_fd : OpS S (binaryOp .FloorDiv) (gP gFd) := s_fdiv.to gP_mono fun x y Q ⟨r, e, q⟩ => by
  unfold gFd vI at e
  split at e
  · split at e
    · cases e; exact i2_of rfl rfl (by assumption) q
    · cases e
  · cases e
theorem z_ifd : OpS S (inplaceOp .FloorDiv) (gP gFd) := s_ifdiv.to gP_mono fun x y Q ⟨r, e, q⟩ => by
  unfold gFd vI at e
  split at e
  · split at e
    · cases e; exact i2_of rfl rfl (by assumption) q
    · cases e
  · cases e
theorem z_mod : OpS S (binaryOp .Mod) (gP gMod) := s_mod.to gP_mono fun x y Q ⟨r, e, q⟩ => by
  unfold gMod vI at e
  split at e
  · split at e
    · cases e; exact i2_of (C := fun _ j => 0 < j) rfl rfl (by assumption) q
    · cases e
  · cases e
theorem z_imod : OpS S (inplaceOp .Mod) (gP gMod) := s_imod.to gP_mono fun x y Q ⟨r, e, q⟩ => by
  unfold gMod vI at e
  split at e
  · split at e
    · cases e; exact i2_of (C := fun _ j => 0 < j) rfl rfl (by assumption) q
    · cases e
  · cases e
theorem z_pow : OpS S (binaryOp .Pow) (gP gPow) := s_pow.to gP_mono fun x y Q ⟨r, e, q⟩ => by
  unfold gPow vI at e
  split at e
  · split at e
    · cases e; exact i2_of rfl rfl (by assumption) q
    · cases e
  · cases e
theorem z_lt : OpS S (compareOp .Lt) (gP gLt) := s_lt.to gP_mono fun x y Q ⟨r, e, q⟩ => by
  unfold gLt vB at e
  split at e <;> first | (cases e; exact i2_of rfl rfl trivial q) | cases e
theorem z_le : OpS S (compareOp .LtE) (gP gLe) := s_le.to gP_mono fun x y Q ⟨r, e, q⟩ => by
  unfold gLe vB at e
  split at e <;> first | (cases e; exact i2_of rfl rfl trivial q) | cases e
theorem z_gt : OpS S (compareOp .Gt) (gP gGt) := s_gt.to gP_mono fun x y Q ⟨r, e, q⟩ => by
  unfold gGt vB at e
  split at e <;> first | (cases e; exact i2_of rfl rfl trivial q) | cases e
theorem z_ge : OpS S (compareOp .GtE) (gP gGe) := s_ge.to gP_mono fun x y Q ⟨r, e, q⟩ => by
  unfold gGe vB at e
  split at e <;> first | (cases e; exact i2_of rfl rfl trivial q) | cases e
theorem z_eq : OpS S (compareOp .Eq) (gP gEq) := s_eq.to gP_mono fun x y Q ⟨r, e, q⟩ => by
  unfold gEq vB at e
  split at e
  · rename_i b eb; cases e; exact ⟨b, eb, q⟩
  · cases e
theorem z_ne : OpS S (compareOp .NotEq) (gP gNe) := s_ne.to gP_mono fun x y Q ⟨r, e, q⟩ => by
  unfold gNe vB at e
  split at e
  · rename_i b eb; cases e; exact ⟨b, eb, q⟩
  · cases e
theorem z_is : OpS S (compareOp .Is) (gP gIs) := (s_isN.or s_isB).to gP_mono fun x y Q ⟨r, e, q⟩ => by
  unfold gIs vB at e
  split at e
  · split at e
    · rename_i b eb; cases e; exact .inl ⟨rfl, b, eb, q⟩
    · cases e
  · cases e; exact .inr ⟨_, _, rfl, rfl, q⟩
  · cases e
theorem z_isN : OpS S (compareOp .IsNot) (gP gIsN) := (s_notN.or s_notB).to gP_mono fun x y Q ⟨r, e, q⟩ => by
  unfold gIsN vB at e
  split at e
  · split at e
    · rename_i b eb; cases e; exact .inl ⟨rfl, b, eb, q⟩
    · cases e
  · cases e; exact .inr ⟨_, _, rfl, rfl, q⟩
  · cases e
theorem z_in : OpS S (compareOp .In) (gP gIn) := s_in.to gP_mono fun x y Q ⟨r, e, q⟩ => by
  unfold gIn vB at e
  split at e
  · rename_i b eb; cases e; exact ⟨b, eb, q⟩
  · cases e
theorem z_nin : OpS S (compareOp .NotIn) (gP gNin) := s_notIn.to gP_mono fun x y Q ⟨r, e, q⟩ => by
  unfold gNin vB at e
  split at e
  · rename_i b eb; cases e; exact ⟨b, eb, q⟩
  · cases e
theorem gIx_ok {x y : PV} {Q : EV → Prop} (h : gP gIx x y Q) : pIx x y Q := by
  obtain ⟨r, e, q⟩ := h
  unfold gIx at e
  split at e
  · rename_i z i
    split at e
    · rename_i hl
      cases ha : atI z.cps.toList i with
      | none => rw [ha] at e; cases e
      | some c => rw [ha] at e; cases e; exact ⟨i, rfl, hl, c, ha, q⟩
    · cases e
  · rename_i xs i
    cases ha : atI xs i with
    | none => rw [ha] at e; cases e
    | some c => rw [ha] at e; cases e; exact ⟨i, rfl, xs, c, rfl, ha, q⟩
  · rename_i xs i
    cases ha : atI xs i with
    | none => rw [ha] at e; cases e
    | some c => rw [ha] at e; cases e; exact ⟨i, rfl, xs, c, rfl, ha, q⟩
  · rename_i xs i
    cases ha : atI xs i with
    | none => rw [ha] at e; cases e
    | some c => rw [ha] at e; cases e; exact ⟨i, rfl, xs, c, rfl, ha, q⟩
  · cases e
theorem x_ix {e : Expr} {A B : ME} (a : JE S e (w2 pIx (up A) (up B))) : JE S e (up (r2 gIx A B)) := a.le up_mono fun σ h Q E q => wpm (wpb q) fun ea σ1 h1 q => wpm (wpb q) fun eb σ2 h2 q => gIx_ok (wp_og q)
end
/-! built-in functions -/
def gLen : GF
  | [x] => match lenOf x with
    | some n => vI n
    | none => none
  | _ => none
def gInt : GF
  | [.int i] => vI i
  | [.bl b] => vI (if b = true then 1 else 0)
  | [.str a] => match PySem.intText? a with
    | some n => if a.length ≤ 640 then vI n else none
    | none => none
  | _ => none
def gStrC : GF
  | [.int i] => if i.natAbs.log2 < 1920 then some (.val (.str (toString i))) else none
  | [.str a] => some (.val (.str a))
  | _ => none
def gOrd : GF
  | [.str a] => if a.length = 1 then vI (a.cps.getD 0 0 : Nat) else none
  | _ => none
def gAbs : GF
  | [.int i] => vI (if i < 0 then -i else i)
  | _ => none
def gSum : GF
  | [x] => match seqI x with
    | some ns => vI ns.sum
    | none => none
  | _ => none
def gMax : GF
  | [.int i, .int j] => vI (if j > i then j else i)
  | [x] => match (seqI x).bind List.max? with
    | some m => vI m
    | none => none
  | _ => none
def gMin : GF
  | [.int i, .int j] => vI (if j < i then j else i)
  | [x] => match (seqI x).bind List.min? with
    | some m => vI m
    | none => none
  | _ => none
def gTupC : GF
  | [x] => (seqOf x).map fun xs => .val (.tup xs)
  | _ => none
def gLstC : GF
  | [.str z] => if z.length ≤ sizeLine then some (.own (.lst (sgP z))) else none
  | [x] => (seqOf x).map fun xs => .own (.lst xs)
  | _ => none
def gAll : GF
  | [x] => match lstB x with
    | some bs => vB (bs.all fun b => b)
    | none => none
  | _ => none
def gAny : GF
  | [x] => match lstB x with
    | some bs => vB (bs.any fun b => b)
    | none => none
  | _ => none
def sortI (ns : List Int) : List Int := ns.mergeSort fun a b => decide (a ≤ b)
def gSortI : GF
  | [.lst xs] => (intL xs).map fun ns => .own (.lst ((sortI ns).map .int))
  | _ => none
def gIsi : GF
  | [x, .cst (.ty T)] => match tyOf x with
    | some a => if tyKnown.contains T = true then vB (isTy a T) else none
    | none => none
  | _ => none
section
variable {S : Sc}
theorem gP1_mono {g : GF} : ∀ x Q Q', (∀ e, Q e → Q' e) → gP1 g x Q → gP1 g x Q' := fun _ _ _ i ⟨r, e, q⟩ => ⟨r, e, i _ q⟩
theorem CallS.rn {f : Value} {g : P1} {g' : GF} (a : CallS S f g) (i : ∀ x Q r, g' x = some r → Q r → g x Q) : CallS S f (gP1 g') where
  mono := gP1_mono
  run := fun X A => by
    obtain ⟨r, c, q⟩ := a.run X A
    exact ⟨r, c, fun F σp h σ H ps vs Q s rr ⟨x, e, z⟩ QV k => q F σp h σ H ps vs Q s rr (i _ _ _ e z) QV k⟩
theorem k_len : CallS S (.builtin "len") (gP1 gLen) := c_len.rn fun x Q r e q => by
  unfold gLen vI at e
  split at e
  · split at e
    · rename_i n hn; cases e; exact ⟨_, n, rfl, hn, q⟩
    · cases e
  · cases e
theorem k_int : CallS S (.type "int") (gP1 gInt) := (c_int.or c_intT).rn fun x Q r e q => by
  unfold gInt vI at e
  split at e
  · cases e; exact .inl q
  · cases e; exact .inl q
  · split at e
    · split at e
      · cases e; exact .inr ⟨_, _, rfl, by assumption, by assumption, q⟩
      · cases e
    · cases e
  · cases e
theorem k_str : CallS S (.type "str") (gP1 gStrC) := (c_strI.or c_strS).rn fun x Q r e q => by
  unfold gStrC at e
  split at e
  · split at e
    · cases e; exact .inl ⟨_, rfl, by assumption, q⟩
    · cases e
  · cases e; exact .inr ⟨_, rfl, q⟩
  · cases e
theorem k_ord : CallS S (.builtin "ord") (gP1 gOrd) := c_ord.rn fun x Q r e q => by
  unfold gOrd vI at e
  split at e
  · split at e
    · cases e; exact ⟨_, rfl, by assumption, q⟩
    · cases e
  · cases e
theorem k_abs : CallS S (.builtin "abs") (gP1 gAbs) := c_abs.rn fun x Q r e q => by
  unfold gAbs vI at e
  split at e
  · cases e; exact ⟨_, rfl, q⟩
  · cases e
theorem k_sum (hc : S.calm = true) : CallS S (.builtin "sum") (gP1 gSum) := (c_sum hc).rn fun x Q r e q => by
  unfold gSum vI at e
  split at e
  · split at e
    · rename_i n hn; cases e; exact ⟨_, n, rfl, hn, q⟩
    · cases e
  · cases e
theorem max_uniq {ns : List Int} {m n : Int} (h : ns.max? = some m) (a : n ∈ ns) (b : ∀ y, y ∈ ns → y ≤ n) : n = m := by
  obtain ⟨c, d⟩ := List.max?_eq_some_iff.mp h
  have := b m c
  have := d n a
  omega
theorem min_uniq {ns : List Int} {m n : Int} (h : ns.min? = some m) (a : n ∈ ns) (b : ∀ y, y ∈ ns → n ≤ y) : n = m := by
  obtain ⟨c, d⟩ := List.min?_eq_some_iff.mp h
  have := b m c
  have := d n a
  omega
theorem k_max (hc : S.calm = true) : CallS S (.builtin "max") (gP1 gMax) := (c_max hc).rn fun x Q r e q => by
  unfold gMax vI at e
  split at e
  · cases e; exact q
  · rename_i _ y
    cases hs : seqI y with
    | none => rw [hs] at e; cases e
    | some ns =>
      rw [hs] at e
      cases hm : ns.max? with
      | none => simp [hm] at e
      | some m =>
        simp [hm] at e
        subst e
        have hz : ∃ ns, seqI y = some ns ∧ 0 < ns.length ∧ ∀ m, m ∈ ns → (∀ z, z ∈ ns → z ≤ m) → Q (.val (.int m)) := by
          refine ⟨ns, hs, ?_, fun n hn ha => ?_⟩
          · cases ns with
            | nil => cases hm
            | cons a b => simp
          · rw [max_uniq hm hn ha]; exact q
        cases y <;> exact hz
  · cases e
theorem k_min (hc : S.calm = true) : CallS S (.builtin "min") (gP1 gMin) := (c_min hc).rn fun x Q r e q => by
  unfold gMin vI at e
  split at e
  · cases e; exact q
  · rename_i _ y
    cases hs : seqI y with
    | none => rw [hs] at e; cases e
    | some ns =>
      rw [hs] at e
      cases hm : ns.min? with
      | none => simp [hm] at e
      | some m =>
        simp [hm] at e
        subst e
        have hz : ∃ ns, seqI y = some ns ∧ 0 < ns.length ∧ ∀ m, m ∈ ns → (∀ z, z ∈ ns → m ≤ z) → Q (.val (.int m)) := by
          refine ⟨ns, hs, ?_, fun n hn ha => ?_⟩
          · cases ns with
            | nil => cases hm
            | cons a b => simp
          · rw [min_uniq hm hn ha]; exact q
        cases y <;> exact hz
  · cases e
theorem k_tuple : CallS S (.type "tuple") (gP1 gTupC) := c_tuple.rn fun x Q r e q => by
  unfold gTupC at e
  split at e
  · rename_i y
    cases hs : seqOf y with
    | none => rw [hs] at e; cases e
    | some ns => rw [hs] at e; cases e; exact ⟨_, ns, rfl, hs, q⟩
  · cases e
theorem k_list (hc : S.calm = true) : CallS S (.type "list") (gP1 gLstC) := (c_list.or (c_listT hc)).rn fun x Q r e q => by
  unfold gLstC at e
  split at e
  · split at e
    · cases e; exact .inr ⟨_, rfl, by assumption, q⟩
    · cases e
  · rename_i y _
    cases hs : seqOf y with
    | none => rw [hs] at e; cases e
    | some ns => rw [hs] at e; cases e; exact .inl ⟨_, ns, rfl, hs, q⟩
  · cases e
theorem k_all (hc : S.calm = true) : CallS S (.builtin "all") (gP1 gAll) := (c_all hc).rn fun x Q r e q => by
  unfold gAll vB at e
  split at e
  · split at e
    · rename_i n hn; cases e; exact ⟨_, n, rfl, hn, q⟩
    · cases e
  · cases e
theorem k_any (hc : S.calm = true) : CallS S (.builtin "any") (gP1 gAny) := (c_any hc).rn fun x Q r e q => by
  unfold gAny vB at e
  split at e
  · split at e
    · rename_i n hn; cases e; exact ⟨_, n, rfl, hn, q⟩
    · cases e
  · cases e
theorem k_sorted : CallS S (.builtin "sorted") (gP1 gSortI) := c_sortI.rn fun x Q r e q => by
  unfold gSortI at e
  split at e
  · rename_i xs
    cases hi : intL xs with
    | none => rw [hi] at e; cases e
    | some ns =>
      rw [hi] at e; cases e
      refine ⟨xs, ns, rfl, hi, fun ns' hp hs => ?_⟩
      have : ns' = sortI ns := by
        refine List.Perm.eq_of_pairwise (le := fun a b => a ≤ b) ?_ hs ?_ (hp.trans (List.mergeSort_perm ns _).symm)
        · intro a b _ _ h1 h2; omega
        · have := List.pairwise_mergeSort (le := fun a b : Int => decide (a ≤ b)) (by intro a b c; simp; omega) (by intro a b; simp; omega) ns
          exact this.imp fun h => by simpa using h
      rw [this]; exact q
  · cases e
theorem k_isi : CallS S (.builtin "isinstance") (gP1 gIsi) := c_isi.rn fun x Q r e q => by
  unfold gIsi vB at e
  split at e
  · split at e
    · rename_i a ha
      split at e
      · cases e; exact ⟨_, a, _, rfl, ha, by assumption, q⟩
      · cases e
    · cases e
  · cases e
theorem gMP_mono {g : GM} : ∀ xs ps Q Q', (∀ r ys, Q r ys → Q' r ys) → gMP g xs ps Q → gMP g xs ps Q' := fun _ _ _ _ i ⟨r, ys, e, q⟩ => ⟨r, ys, e, i _ _ q⟩
theorem LstM.to {name : Str} {id : String} {g : List PV → List PV → (PV → List PV → Prop) → Prop} {g' : GM} (a : LstM S name id g) (i : ∀ xs ps Q r ys, g' xs ps = some (r, ys) → Q r ys → g xs ps Q) : LstM S name id (gMP g') where
  slot := a.slot
  hty := a.hty
  mono := gMP_mono
  run := fun X A => by
    obtain ⟨r, c, q⟩ := a.run X A
    exact ⟨r, c, fun F H l xs ps xv vs Q QV e r1 r2 ⟨rp, ys, eg, z⟩ k => q F H l xs ps xv vs Q QV e r1 r2 (i _ _ _ _ _ eg z) k⟩
theorem m_append : LstM S "append" "list.append" (gMP gApp) := lm_append.to fun xs ps Q r ys e q => by
  unfold gApp at e
  split at e
  · split at e
    · cases e; exact ⟨_, rfl, by assumption, q⟩
    · cases e
  · cases e
theorem m_pop : LstM S "pop" "list.pop" (gMP gPopR) := lm_pop.to fun xs ps Q r ys e q => by
  unfold gPopR at e
  split at e
  · cases h : xs[xs.length - 1]? with
    | none => rw [h] at e; cases e
    | some y => rw [h] at e; cases e; exact ⟨rfl, _, h, q⟩
  · cases e
end
end PP
set_option Elab.async false
set_option linter.all false
set_option maxRecDepth 100000
set_option maxHeartbeats 4000000
namespace PP
open PySem PySem.Spec PyProof.Rows L2
theorem cdiv_lit {i : Int} {n : Nat} (h : 0 < n) (h1 : n < 18446744073709551616) : CDivW i (OfNat.ofNat n : Int) := by
  have e : (OfNat.ofNat n : Int) = (n : Int) := rfl
  rw [e]
  exact wide_div (b := 64) (by omega) (by simpa using h1) (by decide) (by decide)
theorem ixN_lit {m n : Nat} : ixN m (OfNat.ofNat n : Int) = if n < m then some n else none := by
  have e : (OfNat.ofNat n : Int) = (n : Int) := rfl
  rw [e]; unfold ixN; rw [if_pos (by omega)]
  by_cases h : n < m
  · rw [if_pos (by omega), if_pos h]; simp
  · rw [if_neg (by omega), if_neg h]
theorem at_lit {α : Type} {xs : List α} {n : Nat} : atI xs (OfNat.ofNat n : Int) = xs[n]? := by
  unfold atI; rw [ixN_lit]
  by_cases h : n < xs.length
  · rw [if_pos h]; rfl
  · rw [if_neg h]; simp; omega
theorem at_neg1 {α : Type} {xs : List α} : atI xs (-1) = xs.getLast? := by
  unfold atI ixN
  rw [if_neg (by omega)]
  cases xs with
  | nil => rfl
  | cons a b => rw [if_pos (by simp only [List.length_cons]; omega), List.getLast?_eq_getElem?]; show (a :: b)[_]? = _; congr 1; simp only [List.length_cons]; omega
def oIT (a : Str) : Option Int → Option EV
  | some n => if a.length ≤ 640 then some (.val (.int n)) else none
  | none => none
def oIx : List Nat → Option EV
  | i :: _ => some (.val (.int (i : Nat)))
  | [] => none
def vwR (a : Addr) : Option PO → PV
  | some (.lst xs) => .lst xs
  | some (.dK xs) => .dK xs
  | _ => .ref a
@[irreducible] def forI (G : MG) (B : MS) (xs : List PV) : MS := forR G B xs
@[irreducible] def lcI (G : MG) (C : MT) (A : ME) (vs : List Nat) (xs acc : List PV) : PSt → PH → Rs (List PV) := lcR G C A vs xs acc
def shLk1 (es : List EV) : PV → PSt → PH → Rs (List PV) := fun p σ1 h1 => (shLR es σ1 h1).bind (shLk p)
def shOk1 (es : List EV) : PV → PSt → PH → Rs (List EV) := fun p σ1 h1 => (shOR es σ1 h1).bind (shOk (.val p))
def putR (put : PO → PSt × PH) : Option (PV × List PV) → Rs EV
  | some (r, ys) => .ok (.val r) (put (.lst ys)).1 (put (.lst ys)).2
  | none => .stk
def plcH (σ : PSt) (h : PH) (a : Addr) : Option PO → Option (PO × (PO → PSt × PH))
  | some o => some (o, fun o' => (σ, updP h a o'))
  | none => none
def plcS (i : Nat) (σ : PSt) (h : PH) : Option (Option SV) → Option (PO × (PO → PSt × PH))
  | some (some (.own o)) => some (o, fun o' => (σ.set i (some (.own o')), h))
  | some (some (.val (.ref a))) => plcH σ h a (h a)
  | _ => none
def tSv (p : PV) (eo : EV) (σ : PSt) (h : PH) : PV → Rs Unit
  | .int k => tSp k p (plc σ h (pend eo))
  | _ => .stk
def tSj (xs : List PV) (p : PV) (put : PO → PSt × PH) : Option Nat → Rs Unit
  | some j => .ok () (put (.lst (xs.set j p))).1 (put (.lst (xs.set j p))).2
  | none => .stk
def tryX (i : Nat) (U : PX → MS) (x : PX) (σ : PSt) (h : PH) : Option Bool → Ss
  | some true => if i < σ.length then (U x (σ.set i (some (.val .bad))) h).sui i else .stk
  | some false => .ex x σ h
  | none => .stk
def tryOX (U : MS) (x : PX) (σ : PSt) (h : PH) : Option Bool → Ss
  | some true => (U σ h).suiE
  | some false => .ex x σ h
  | none => .stk
def layK1 (i : Nat) : MS := fun σ1 h1 => layK i σ1[i]? σ1 h1
def vwS (h : PH) : Option (Option SV) → PV
  | some (some (.val p)) => vwp h p
  | some (some (.own o)) => o.pv
  | _ => .bad
def oB : Option Bool → Option EV
  | some b => vB b
  | none => none
def oN : Option Bool → Option EV
  | some b => vB (!b)
  | none => none
def oI : Option Int → Option EV
  | some b => vI b
  | none => none
def oL : Option (List Int) → Option EV
  | some ns => some (.own (.lst (ns.map .int)))
  | none => none
theorem q0  : ∀ {α β : Type} {a : α} {σ : PSt} {h : PH} {k : α → PSt → PH → Rs β}, (Rs.ok a σ h).bind k = k a σ h := fun {_ _ _ _ _ _} => (rfl)
theorem q1  : ∀ {α β : Type} {x : PX} {σ : PSt} {h : PH} {k : α → PSt → PH → Rs β}, (Rs.ex x σ h : Rs α).bind k = .ex x σ h := fun {_ _ _ _ _ _} => (rfl)
theorem q2  : ∀ {α β : Type} {k : α → PSt → PH → Rs β}, (Rs.stk : Rs α).bind k = .stk := fun {_ _ _} => (rfl)
theorem q3  : ∀ {α : Type} {a : α} {σ : PSt} {h : PH}, (Rs.ok a σ h).noex = .ok a σ h := fun {_ _ _ _} => (rfl)
theorem q4  : ∀ {α : Type}, (Rs.stk : Rs α).noex = .stk := fun {_} => (rfl)
theorem q5  : ∀ {α : Type} {a : α} {σ : PSt} {h : PH} {k : α → PSt → PH → Ss}, bindS (Rs.ok a σ h) k = k a σ h := fun {_ _ _ _ _} => (rfl)
theorem q6  : ∀ {α : Type} {x : PX} {σ : PSt} {h : PH} {k : α → PSt → PH → Ss}, bindS (Rs.ex x σ h : Rs α) k = .ex x σ h := fun {_ _ _ _ _} => (rfl)
theorem q7  : ∀ {α : Type} {k : α → PSt → PH → Ss}, bindS (Rs.stk : Rs α) k = .stk := fun {_ _} => (rfl)
theorem q8 {σ : PSt} {h : PH} {k : MS} : (Ss.nx σ h).seq k = k σ h := (rfl)
theorem q9 {σ : PSt} {h : PH} {k : MS} {e : EV} : (Ss.rt e σ h).seq k = .rt e σ h := (rfl)
theorem q10 {σ : PSt} {h : PH} {k : MS} : (Ss.bk σ h).seq k = .bk σ h := (rfl)
theorem q11 {σ : PSt} {h : PH} {k : MS} : (Ss.ct σ h).seq k = .ct σ h := (rfl)
theorem q12 {σ : PSt} {h : PH} {k : MS} {x : PX} : (Ss.ex x σ h).seq k = .ex x σ h := (rfl)
theorem q13 {k : MS} : (Ss.stk).seq k = .stk := (rfl)
theorem q14 {σ : PSt} {h : PH} {k : MS} : (Ss.nx σ h).loop k = k σ h := (rfl)
theorem q15 {σ : PSt} {h : PH} {k : MS} {e : EV} : (Ss.rt e σ h).loop k = .rt e σ h := (rfl)
theorem q16 {σ : PSt} {h : PH} {k : MS} : (Ss.bk σ h).loop k = .nx σ h := (rfl)
theorem q17 {σ : PSt} {h : PH} {k : MS} : (Ss.ct σ h).loop k = k σ h := (rfl)
theorem q18 {σ : PSt} {h : PH} {k : MS} {x : PX} : (Ss.ex x σ h).loop k = .ex x σ h := (rfl)
theorem q19 {k : MS} : (Ss.stk).loop k = .stk := (rfl)
theorem q20 {σ : PSt} {h : PH} {kx : PX → MS} : (Ss.nx σ h).catch kx = .nx σ h := (rfl)
theorem q21 {σ : PSt} {h : PH} {kx : PX → MS} {e : EV} : (Ss.rt e σ h).catch kx = .rt e σ h := (rfl)
theorem q22 {σ : PSt} {h : PH} {kx : PX → MS} : (Ss.bk σ h).catch kx = .bk σ h := (rfl)
theorem q23 {σ : PSt} {h : PH} {kx : PX → MS} : (Ss.ct σ h).catch kx = .ct σ h := (rfl)
theorem q24 {σ : PSt} {h : PH} {kx : PX → MS} {x : PX} : (Ss.ex x σ h).catch kx = kx x σ h := (rfl)
theorem q25 {kx : PX → MS} : (Ss.stk).catch kx = .stk := (rfl)
theorem q26 {σ : PSt} {h : PH} {i : Nat} : (Ss.nx σ h).sui i = .nx (σ.set i none) h := (rfl)
theorem q27 {σ : PSt} {h : PH} {e : EV} {i : Nat} : (Ss.rt e σ h).sui i = .rt e σ h := (rfl)
theorem q28 {σ : PSt} {h : PH} {i : Nat} : (Ss.bk σ h).sui i = .bk (σ.set i none) h := (rfl)
theorem q29 {σ : PSt} {h : PH} {i : Nat} : (Ss.ct σ h).sui i = .ct (σ.set i none) h := (rfl)
theorem q30 {σ : PSt} {h : PH} {x : PX} {i : Nat} : (Ss.ex x σ h).sui i = .stk := (rfl)
theorem q31 {i : Nat} : (Ss.stk).sui i = .stk := (rfl)
theorem q32 {σ : PSt} {h : PH} : (Ss.nx σ h).suiE = .nx σ h := (rfl)
theorem q33 {σ : PSt} {h : PH} {e : EV} : (Ss.rt e σ h).suiE = .rt e σ h := (rfl)
theorem q34 {σ : PSt} {h : PH} : (Ss.bk σ h).suiE = .bk σ h := (rfl)
theorem q35 {σ : PSt} {h : PH} : (Ss.ct σ h).suiE = .ct σ h := (rfl)
theorem q36 {σ : PSt} {h : PH} {x : PX} : (Ss.ex x σ h).suiE = .stk := (rfl)
theorem q37  : (Ss.stk).suiE = .stk := (rfl)
theorem q38 {σ : PSt} {h : PH} : toF (Ss.nx σ h) = .ok (.val .non) h := (rfl)
theorem q39 {σ : PSt} {h : PH} {e : EV} : toF (Ss.rt e σ h) = .ok e h := (rfl)
theorem q40 {σ : PSt} {h : PH} {x : PX} : toF (Ss.ex x σ h) = .ex x h := (rfl)
theorem q41  : toF (Ss.stk) = .stk := (rfl)
theorem q42 {σ : PSt} {h : PH} {e : EV} : lift (Fs.ok e h) σ = .ok e σ h := (rfl)
theorem q43 {σ : PSt} {h : PH} {x : PX} : lift (Fs.ex x h) σ = .ex x σ h := (rfl)
theorem q44 {σ : PSt} : lift (Fs.stk) σ = .stk := (rfl)
theorem q45  : ∀ {α : Type} {a : α} {σ : PSt} {h : PH}, og (some a) σ h = .ok a σ h := fun {_ _ _ _} => (rfl)
theorem q46  : ∀ {α : Type} {σ : PSt} {h : PH}, og (none : Option α) σ h = .stk := fun {_ _ _} => (rfl)
theorem q47 {σ : PSt} {h : PH} {p : PV} : rC p σ h = .ok (.val p) σ h := (rfl)
theorem q48 {σ : PSt} {h : PH} {i : Nat} : rV i σ h = getE i σ[i]? σ h := (rfl)
theorem q49 {σ : PSt} {h : PH} {i : Nat} {p : PV} : getE i (some (some (.val p))) σ h = .ok (.val p) σ h := (rfl)
theorem q50 {σ : PSt} {h : PH} {i : Nat} {o : PO} : getE i (some (some (.own o))) σ h = .ok (.bor i) σ h := (rfl)
theorem q51 {σ : PSt} {h : PH} {A B : ME} {g : G2} : r2 g A B σ h = (A σ h).bind (r2k1 g B) := (rfl)
theorem q52 {σ : PSt} {h : PH} {B : ME} {g : G2} {ea : EV} : r2k1 g B ea σ h = (B σ h).bind (r2k2 g ea) := (rfl)
theorem q53 {σ : PSt} {h : PH} {g : G2} {ea eb : EV} : r2k2 g ea eb σ h = og (g (vw σ h (pend ea)) (vw σ h eb)) σ h := (rfl)
theorem q54 {σ : PSt} {h : PH} {A B C : ME} {g g1 : G2} : rCh g g1 A B C σ h = (A σ h).bind (chk1 g g1 B C) := (rfl)
theorem q55 {σ : PSt} {h : PH} {B C : ME} {g g1 : G2} {ea : EV} : chk1 g g1 B C ea σ h = (B σ h).bind (chk2 g g1 C ea) := (rfl)
theorem q56 {σ : PSt} {h : PH} {C : ME} {g g1 : G2} {ea eb : EV} : chk2 g g1 C ea eb σ h = (og (g (vw σ h (pend ea)) (vw σ h (pend eb))) σ h).bind (chk3 g1 C eb) := (rfl)
theorem q57 {σ : PSt} {h : PH} {C : ME} {g1 : G2} {eb : EV} {b : Bool} : chk3 g1 C eb (.val (.bl b)) σ h = if b = true then (C σ h).bind (chk4 g1 eb) else .ok (.val (.bl false)) σ h := (rfl)
theorem q58 {σ : PSt} {h : PH} {g1 : G2} {ea eb : EV} : chk4 g1 eb ea σ h = og (g1 (vw σ h (pend eb)) (vw σ h ea)) σ h := (rfl)
theorem q59 {σ : PSt} {h : PH} {A B : ME} : rAnd A B σ h = (A σ h).bind (andK B) := (rfl)
theorem q60 {σ : PSt} {h : PH} {B : ME} {b : Bool} : andK B (.val (.bl b)) σ h = if b = true then B σ h else .ok (.val (.bl false)) σ h := (rfl)
theorem q61 {σ : PSt} {h : PH} {A B : ME} : rOr A B σ h = (A σ h).bind (orK B) := (rfl)
theorem q62 {σ : PSt} {h : PH} {B : ME} {b : Bool} : orK B (.val (.bl b)) σ h = if b = true then .ok (.val (.bl true)) σ h else B σ h := (rfl)
theorem q63 {σ : PSt} {h : PH} {A : ME} : rNot A σ h = (A σ h).bind notK := (rfl)
theorem q64 {σ : PSt} {h : PH} {b : Bool} : notK (.val (.bl b)) σ h = .ok (.val (.bl (!b))) σ h := (rfl)
theorem q65 {σ : PSt} {h : PH} {A B : ME} {U : MT} : rIf U A B σ h = (U σ h).bind (ifK A B) := (rfl)
theorem q66 {σ : PSt} {h : PH} {A B : ME} {b : Bool} : ifK A B b σ h = if b = true then A σ h else B σ h := (rfl)
theorem q67 {σ : PSt} {h : PH} {A : ME} : rNeg A σ h = (A σ h).bind negK := (rfl)
theorem q68 {σ : PSt} {h : PH} {k : Int} : negK (.val (.int k)) σ h = .ok (.val (.int (-k))) σ h := (rfl)
theorem q69 {σ : PSt} {h : PH} {A : ME} : rTru A σ h = (A σ h).bind truK := (rfl)
theorem q70 {σ : PSt} {h : PH} {e : EV} : truK e σ h = og (truB (vw σ h e)) σ h := (rfl)
theorem q71 {σ : PSt} {h : PH} {U V : MT} : rAndT U V σ h = (U σ h).bind (andT V) := (rfl)
theorem q72 {σ : PSt} {h : PH} {V : MT} {b : Bool} : andT V b σ h = if b = true then V σ h else .ok false σ h := (rfl)
theorem q73 {σ : PSt} {h : PH} {U V : MT} : rOrT U V σ h = (U σ h).bind (orT V) := (rfl)
theorem q74 {σ : PSt} {h : PH} {V : MT} {b : Bool} : orT V b σ h = if b = true then .ok true σ h else V σ h := (rfl)
theorem q75 {σ : PSt} {h : PH} {U : MT} : rNotT U σ h = (U σ h).bind notT := (rfl)
theorem q76 {σ : PSt} {h : PH} {b : Bool} : notT b σ h = .ok (!b) σ h := (rfl)
theorem q77 {σ : PSt} {h : PH} {A : ME} : rTb A σ h = (A σ h).bind tbK := (rfl)
theorem q78 {σ : PSt} {h : PH} {b : Bool} : tbK (.val (.bl b)) σ h = .ok b σ h := (rfl)
theorem q79 {σ : PSt} {h : PH} : rYes σ h = .ok true σ h := (rfl)
theorem q80 {σ : PSt} {h : PH} : rNil σ h = .ok [] σ h := (rfl)
theorem q81 {σ : PSt} {h : PH} {A : ME} {L : MA} : rCons A L σ h = (A σ h).bind (consK1 L) := (rfl)
theorem q82 {σ : PSt} {h : PH} {L : MA} {e : EV} : consK1 L e σ h = (L σ h).bind (consK2 (pend e)) := (rfl)
theorem q83 {σ : PSt} {h : PH} {e : EV} {es : List EV} : consK2 e es σ h = .ok (e :: es) σ h := (rfl)
theorem q84 {σ : PSt} {h : PH} {A : ME} {L : MA} : rCons2 A L σ h = (A σ h).bind (consO1 L) := (rfl)
theorem q85 {σ : PSt} {h : PH} {L : MA} {e : EV} : consO1 L e σ h = (L σ h).bind (consK2 (keepO e)) := (rfl)
theorem q86 {σ : PSt} {h : PH} {p : PV} : shR (.val p) σ h = .ok p σ h := (rfl)
theorem q87 {σ : PSt} {h : PH} {o : PO} : shR (.own o) σ h = .ok o.pv σ h := (rfl)
theorem q88 {σ : PSt} {h : PH} {i : Nat} : shR (.bor i) σ h = shS i σ[i]? σ h := (rfl)
theorem q89 {σ : PSt} {h : PH} {i : Nat} {p : PV} : shS i (some (some (.val p))) σ h = .ok p σ h := (rfl)
theorem q90 {σ : PSt} {h : PH} {i : Nat} {o : PO} : shS i (some (some (.own o))) σ h = .ok o.pv (σ.set i (some (.val o.pv))) h := (rfl)
theorem q91 {σ : PSt} {h : PH} : shLR [] σ h = .ok [] σ h := (rfl)
theorem q92 {σ : PSt} {h : PH} {e : EV} {es : List EV} : shLR (e :: es) σ h = (shR e σ h).bind (shLk1 es) := (rfl)
theorem q93 {σ : PSt} {h : PH} {p : PV} {es : List EV} : shLk1 es p σ h = (shLR es σ h).bind (shLk p) := (rfl)
theorem q94 {σ : PSt} {h : PH} {p : PV} {ps : List PV} : shLk p ps σ h = .ok (p :: ps) σ h := (rfl)
theorem q95 {f : List PV → EV} {ps : List PV} {σ : PSt} {h : PH} : szK f ps σ h = if ps.length ≤ sizeLine then .ok (f ps) σ h else .stk := (rfl)
theorem q96 {σ : PSt} {h : PH} {L : MA} : rTup L σ h = (L σ h).bind tupK := (rfl)
theorem q97 {σ : PSt} {h : PH} {es : List EV} : tupK es σ h = (shLR es σ h).bind (szK fun zs => .val (.tup zs)) := (rfl)
theorem q98 {σ : PSt} {h : PH} {L : MA} : rLst L σ h = (L σ h).bind lstK := (rfl)
theorem q99 {σ : PSt} {h : PH} {es : List EV} : lstK es σ h = (shLR es σ h).bind (szK fun zs => .own (.lst zs)) := (rfl)
theorem q100 {σ : PSt} {h : PH} {L : MA} {gf : GF} : rB gf L σ h = (L σ h).bind (bK gf) := (rfl)
theorem q101 {σ : PSt} {h : PH} {gf : GF} {es : List EV} : bK gf es σ h = og (gf (es.map (vw σ h))) σ h := (rfl)
theorem q102 {σ : PSt} {h : PH} : rO0 σ h = .ok none σ h := (rfl)
theorem q103 {σ : PSt} {h : PH} {A : ME} : rO1 A σ h = (A σ h).bind o1K := (rfl)
theorem q104 {σ : PSt} {h : PH} {e : EV} : o1K e σ h = og (toI (vw σ h e)) σ h := (rfl)
theorem q105 {k : Int} : toI (.int k) = some (some k) := (rfl)
theorem q106 {σ : PSt} {h : PH} {A : ME} {O O1 : MO} : rSl A O O1 σ h = (A σ h).bind (slK1 O O1) := (rfl)
theorem q107 {σ : PSt} {h : PH} {O O1 : MO} {e : EV} : slK1 O O1 e σ h = (O σ h).bind (slK2 O1 e) := (rfl)
theorem q108 {σ : PSt} {h : PH} {O1 : MO} {e : EV} {lo : Option Int} : slK2 O1 e lo σ h = (O1 σ h).bind (slK3 e lo) := (rfl)
theorem q109 {σ : PSt} {h : PH} {e : EV} {lo hi : Option Int} : slK3 e lo hi σ h = og (gSl (vw σ h (pend e)) lo hi) σ h := (rfl)
theorem q110 {xs : List PV} {lo hi : Option Int} : gSl (.lst xs) lo hi = some (.own (.lst (cutP xs lo hi))) := (rfl)
theorem q111 {xs : List PV} {lo hi : Option Int} : gSl (.rdl xs) lo hi = some (.own (.lst (cutP xs lo hi))) := (rfl)
theorem q112 {xs : List PV} {lo hi : Option Int} : gSl (.tup xs) lo hi = some (.val (.tup (cutP xs lo hi))) := (rfl)
theorem q113 {z : Str} {lo hi : Option Int} : gSl (.str z) lo hi = if z.length ≤ sizeLine then some (.val (.str (cutS z lo hi))) else none := (rfl)
theorem q114 {σ : PSt} {h : PH} {L : MA} {n : Nat} {F : FN} {dv : List PV} : rCall n F dv L σ h = (L σ h).bind (caK1 n F dv) := (rfl)
theorem q115 {σ : PSt} {h : PH} {n : Nat} {es : List EV} {F : FN} {dv : List PV} : caK1 n F dv es σ h = if es.length = n then (shLR es σ h).bind (caK2 F dv) else .stk := (rfl)
theorem q116 {σ : PSt} {h : PH} {ps : List PV} {F : FN} {dv : List PV} : caK2 F dv ps σ h = lift (F (ps ++ dv) h) σ := (rfl)
theorem q117 {σ : PSt} {h : PH} {A : ME} : rSeqI A σ h = (A σ h).bind sqK1 := (rfl)
theorem q118 {σ : PSt} {h : PH} {e : EV} : sqK1 e σ h = (shR e σ h).bind sqK2 := (rfl)
theorem q119 {σ : PSt} {h : PH} {p : PV} : sqK2 p σ h = og (seqW p) σ h := (rfl)
theorem q120 {σ : PSt} {h : PH} {L : MA} : rRng1 L σ h = (L σ h).bind rgK1 := (rfl)
theorem q121 {σ : PSt} {h : PH} {j : Int} : rgK1 [.val (.int j)] σ h = if Fit j then .ok (rangeP 0 j.toNat) σ h else .stk := (rfl)
theorem q122 {σ : PSt} {h : PH} {L : MA} : rRng2 L σ h = (L σ h).bind rgK2 := (rfl)
theorem q123 {σ : PSt} {h : PH} {i j : Int} : rgK2 [.val (.int i), .val (.int j)] σ h = if Fit i ∧ Fit j then .ok (rangeP i (j - i).toNat) σ h else .stk := (rfl)
theorem q124 {σ : PSt} {h : PH} {L : MA} : rRng3 L σ h = (L σ h).bind rgK3 := (rfl)
theorem q125 {σ : PSt} {h : PH} {i j c : Int} : rgK3 [.val (.int i), .val (.int j), .val (.int c)] σ h = if RgC i j c (Builtin.Range.rangeSize i j c).toNat then .ok (rangeC i c (Builtin.Range.rangeSize i j c).toNat) σ h else .stk := (rfl)
theorem q126 {σ : PSt} {h : PH} {L : MA} : rEnum L σ h = (L σ h).bind enK1 := (rfl)
theorem q127 {σ : PSt} {h : PH} {es : List EV} : enK1 es σ h = (shLR es σ h).bind enK2 := (rfl)
theorem q128 {σ : PSt} {h : PH} {p : PV} : enK2 [p] σ h = og ((seqW p).map (enumP 0)) σ h := (rfl)
theorem q129 {σ : PSt} {h : PH} {A : ME} {L : MA} {gm : GM} : rMut gm A L σ h = (A σ h).bind (muK1 gm L) := (rfl)
theorem q130 {σ : PSt} {h : PH} {L : MA} {gm : GM} {ea : EV} : muK1 gm L ea σ h = if isLst (vw σ h (pend ea)) = true then (L σ h).bind (muK2 gm ea) else .stk := (rfl)
theorem q131 {σ : PSt} {h : PH} {gm : GM} {ea : EV} {es : List EV} : muK2 gm ea es σ h = (shLR es σ h).bind (muK3 gm ea) := (rfl)
theorem q132 {σ : PSt} {h : PH} {gm : GM} {ea : EV} {ps : List PV} : muK3 gm ea ps σ h = putK gm ps σ h (plc σ h (pend ea)) := (rfl)
theorem q133 {xs : List PV} : isLst (.lst xs) = true := (rfl)
theorem q134 {gm : GM} {ps xs : List PV} {σ : PSt} {h : PH} {put : PO → PSt × PH} : putK gm ps σ h (some (.lst xs, put)) = putR put (gm xs ps) := (rfl)
theorem q135 {put : PO → PSt × PH} {r : PV} {ys : List PV} : putR put (some (r, ys)) = .ok (.val r) (put (.lst ys)).1 (put (.lst ys)).2 := (rfl)
theorem q136 {p : PV} {xs : List PV} : gApp xs [p] = if xs.length < sizeLine then some (.non, xs ++ [p]) else none := (rfl)
theorem q137 {xs : List PV} : gPopR xs [] = (xs[xs.length - 1]?).map fun y => (y, xs.dropLast) := (rfl)
theorem q138 {σ : PSt} {h : PH} {i : Nat} : plc σ h (.bor i) = plcS i σ h σ[i]? := (rfl)
theorem q139 {σ : PSt} {h : PH} {i : Nat} {o : PO} : plcS i σ h (some (some (.own o))) = some (o, fun o1 => (σ.set i (some (.own o1)), h)) := (rfl)
theorem q140 {σ : PSt} {h : PH} {i : Nat} {a : Addr} : plcS i σ h (some (some (.val (.ref a)))) = plcH σ h a (h a) := (rfl)
theorem q141 {σ : PSt} {h : PH} {a : Addr} : plc σ h (.val (.ref a)) = plcH σ h a (h a) := (rfl)
theorem q142 {σ : PSt} {h : PH} {o : PO} {a : Addr} : plcH σ h a (some o) = some (o, fun o1 => (σ, updP h a o1)) := (rfl)
theorem q143 {σ : PSt} {h : PH} {A : ME} {U : MT} {I : MI} {G : MG} {vs : List Nat} : rLc I G U A vs σ h = (I σ h).bind (lcK1 G U A vs) := (rfl)
theorem q144 {σ : PSt} {h : PH} {G : MG} {U : MT} {A : ME} {vs : List Nat} {xs : List PV} : lcK1 G U A vs xs σ h = (lcI G U A vs xs [] (wipeP σ vs) h).bind (lcK2 σ vs) := by unfold lcI; rfl
theorem q145 {σ σ1 : PSt} {h : PH} {vs : List Nat} {ys : List PV} : lcK2 σ1 vs ys σ h = .ok (.own (.lst ys)) (backP σ1 σ vs) h := (rfl)
theorem q146 {σ : PSt} {h : PH} {A : ME} {U : MT} {G : MG} {p : PV} : lcE G U A p σ h = (G p σ h).bind (leK1 U A) := (rfl)
theorem q147 {σ : PSt} {h : PH} {U : MT} {A : ME} {u : Unit} : leK1 U A u σ h = (U σ h).bind (leK2 A) := (rfl)
theorem q148 {σ : PSt} {h : PH} {A : ME} {b : Bool} : leK2 A b σ h = if b = true then (A σ h).bind leK3 else .ok none σ h := (rfl)
theorem q149 {σ : PSt} {h : PH} {e : EV} : leK3 e σ h = (shR e σ h).bind leK4 := (rfl)
theorem q150 {σ : PSt} {h : PH} {p : PV} : leK4 p σ h = .ok (some p) σ h := (rfl)
theorem q151 {σ : PSt} {h : PH} {i : Nat} {p : PV} : tN i p σ h = .ok () (σ.set i (some (.val p))) h := (rfl)
theorem q152 {σ : PSt} {h : PH} : tT0 [] σ h = .ok () σ h := (rfl)
theorem q153 {σ : PSt} {h : PH} {G : MG} {Gs : MGs} {p : PV} {ps : List PV} : tTc G Gs (p :: ps) σ h = (G p σ h).bind (tTk Gs ps) := (rfl)
theorem q154 {σ : PSt} {h : PH} {Gs : MGs} {ps : List PV} {u : Unit} : tTk Gs ps u σ h = Gs ps σ h := (rfl)
theorem q155 {σ : PSt} {h : PH} {Gs : MGs} {n : Nat} {ps : List PV} : tT n Gs (.tup ps) σ h = if ps.length = n then Gs ps σ h else .stk := (rfl)
theorem q156 {σ : PSt} {h : PH} {A B : ME} {p : PV} : tS A B p σ h = (A σ h).noex.bind (tSk1 B p) := (rfl)
theorem q157 {σ : PSt} {h : PH} {B : ME} {p : PV} {ea : EV} : tSk1 B p ea σ h = (B σ h).noex.bind (tSk2 p ea) := (rfl)
theorem q158 {σ : PSt} {h : PH} {p : PV} {ea eb : EV} : tSk2 p ea eb σ h = tSv p ea σ h (vw σ h eb) := (rfl)
theorem q159 {σ : PSt} {h : PH} {p : PV} {ea : EV} {k : Int} : tSv p ea σ h (.int k) = tSp k p (plc σ h (pend ea)) := (rfl)
theorem q160 {k : Int} {p : PV} {xs : List PV} {put : PO → PSt × PH} : tSp k p (some (.lst xs, put)) = tSj xs p put (ixN xs.length k) := (rfl)
theorem q161 {p : PV} {xs : List PV} {put : PO → PSt × PH} {j : Nat} : tSj xs p put (some j) = .ok () (put (.lst (xs.set j p))).1 (put (.lst (xs.set j p))).2 := (rfl)
theorem q162 {σ : PSt} {h : PH} : mNx σ h = .nx σ h := (rfl)
theorem q163 {σ : PSt} {h : PH} : mBk σ h = .bk σ h := (rfl)
theorem q164 {σ : PSt} {h : PH} : mCt σ h = .ct σ h := (rfl)
theorem q165 {σ : PSt} {h : PH} {M N : MS} : mSeq M N σ h = (M σ h).seq N := (rfl)
theorem q166 {σ : PSt} {h : PH} {U : MT} {M N : MS} : mIf U M N σ h = bindS (U σ h) (mIfK M N) := (rfl)
theorem q167 {σ : PSt} {h : PH} {M N : MS} {b : Bool} : mIfK M N b σ h = if b = true then M σ h else N σ h := (rfl)
theorem q168 {σ : PSt} {h : PH} {A : ME} : mDrop A σ h = bindS (A σ h) dropK := (rfl)
theorem q169 {σ : PSt} {h : PH} {e : EV} : dropK e σ h = .nx σ h := (rfl)
theorem q170 {σ : PSt} {h : PH} {A : ME} : mRet A σ h = bindS (A σ h) retK := (rfl)
theorem q171 {σ : PSt} {h : PH} {p : PV} : retK (.val p) σ h = .rt (.val p) σ h := (rfl)
theorem q172 {σ : PSt} {h : PH} {o : PO} : retK (.own o) σ h = .rt (.own o) σ h := (rfl)
theorem q173 {σ : PSt} {h : PH} {i : Nat} : retK (.bor i) σ h = retS i σ[i]? σ h := (rfl)
theorem q174 {σ : PSt} {h : PH} {i : Nat} {p : PV} : retS i (some (some (.val p))) σ h = .rt (.val p) σ h := (rfl)
theorem q175 {σ : PSt} {h : PH} {i : Nat} {o : PO} : retS i (some (some (.own o))) σ h = .rt (.own o) (σ.set i none) h := (rfl)
theorem q176 {σ : PSt} {h : PH} : mRetN σ h = .rt (.val .non) σ h := (rfl)
theorem q177 {σ : PSt} {h : PH} {A : ME} {i : Nat} : mSet i A σ h = bindS (A σ h) (setK i) := (rfl)
theorem q178 {σ : PSt} {h : PH} {i : Nat} {p : PV} : setK i (.val p) σ h = .nx (σ.set i (some (.val p))) h := (rfl)
theorem q179 {σ : PSt} {h : PH} {i : Nat} {o : PO} : setK i (.own o) σ h = .nx (σ.set i (some (.own o))) h := (rfl)
theorem q180 {σ : PSt} {h : PH} {i n : Nat} : setK i (.bor n) σ h = bindS (shR (.bor n) σ h) (setK2 i) := (rfl)
theorem q181 {σ : PSt} {h : PH} {i : Nat} {p : PV} : setK2 i p σ h = .nx (σ.set i (some (.val p))) h := (rfl)
theorem q182 {σ : PSt} {h : PH} : shOR [] σ h = .ok [] σ h := (rfl)
theorem q183 {σ : PSt} {h : PH} {o : PO} {es : List EV} : shOR (.own o :: es) σ h = (shOR es σ h).bind (shOk (.own o)) := (rfl)
theorem q184 {σ : PSt} {h : PH} {p : PV} {es : List EV} : shOR (.val p :: es) σ h = (shOR es σ h).bind (shOk (.val p)) := (rfl)
theorem q185 {σ : PSt} {h : PH} {i : Nat} {es : List EV} : shOR (.bor i :: es) σ h = (shR (.bor i) σ h).bind (shOk1 es) := (rfl)
theorem q186 {σ : PSt} {h : PH} {p : PV} {es : List EV} : shOk1 es p σ h = (shOR es σ h).bind (shOk (.val p)) := (rfl)
theorem q187 {σ : PSt} {h : PH} {e : EV} {es : List EV} : shOk e es σ h = .ok (e :: es) σ h := (rfl)
theorem q188 {σ : PSt} {h : PH} {L : MA} {is : List Nat} : mPar is L σ h = bindS (L σ h) (parK1 is) := (rfl)
theorem q189 {σ : PSt} {h : PH} {es : List EV} {is : List Nat} : parK1 is es σ h = if is.length = es.length then bindS (shOR es σ h) (parK2 is) else .stk := (rfl)
theorem q190 {σ : PSt} {h : PH} {es : List EV} {is : List Nat} : parK2 is es σ h = if is.length = es.length then .nx (putEs σ is es) h else .stk := (rfl)
theorem q191 {σ : PSt} {i : Nat} {o : PO} {es : List EV} {is : List Nat} : putEs σ (i :: is) (.own o :: es) = putEs (σ.set i (some (.own o))) is es := (rfl)
theorem q192 {σ : PSt} {i : Nat} {p : PV} {es : List EV} {is : List Nat} : putEs σ (i :: is) (.val p :: es) = putEs (σ.set i (some (.val p))) is es := (rfl)
theorem q193 {σ : PSt} : putEs σ [] [] = σ := (rfl)
theorem q194 {σ : PSt} {h : PH} {A : ME} {G : MG} : mAsg A G σ h = bindS (A σ h) (asgK1 G) := (rfl)
theorem q195 {σ : PSt} {h : PH} {G : MG} {e : EV} : asgK1 G e σ h = bindS (shR e σ h) (asgK2 G) := (rfl)
theorem q196 {σ : PSt} {h : PH} {G : MG} {p : PV} : asgK2 G p σ h = bindS (G p σ h).noex nxK := (rfl)
theorem q197 {σ : PSt} {h : PH} {u : Unit} : nxK u σ h = .nx σ h := (rfl)
theorem q198 {σ : PSt} {h : PH} {I : MI} {G : MG} {M : MS} : mFor I G M σ h = bindS (I σ h) (forI G M) := by unfold forI; rfl
theorem q199 {σ : PSt} {h : PH} {L : MA} {x : PX} : mRaise x L σ h = bindS (L σ h) (raiseK x) := (rfl)
theorem q200 {σ : PSt} {h : PH} {es : List EV} {x : PX} : raiseK x es σ h = if es.length ≤ 1000 then .ex x σ h else .stk := (rfl)
theorem q201 {σ : PSt} {h : PH} {L : MA} {s : Str} {fs : List Str} : mRaiseI s fs L σ h = bindS (L σ h) (raiseIK s fs) := (rfl)
theorem q202 {σ : PSt} {h : PH} {es : List EV} {s : Str} {fs : List Str} : raiseIK s fs es σ h = raiseIX s fs σ h (valsOf es) := (rfl)
theorem q203 {σ : PSt} {h : PH} {ps : List PV} {s : Str} {fs : List Str} : raiseIX s fs σ h (some ps) = if ps.length = fs.length ∧ ps.all flatE = true then .ex ⟨s, fs.zip ps⟩ σ h else .stk := (rfl)
theorem q204  : valsOf [] = some [] := (rfl)
theorem q205 {p : PV} {es : List EV} : valsOf (.val p :: es) = (valsOf es).map (p :: ·) := (rfl)
theorem q206 {i : Int} : flatE (.int i) = true := (rfl)
theorem q207 {s : Str} : flatE (.str s) = true := (rfl)
theorem q208 {b : Bool} : flatE (.bl b) = true := (rfl)
theorem q209  : flatE .non = true := (rfl)
theorem q210 {σ : PSt} {h : PH} {M : MS} {tb : Tb} {i : Nat} {U : PX → MS} : mTry tb i M U σ h = (M σ h).catch (tryK tb i U) := (rfl)
theorem q211 {σ : PSt} {h : PH} {tb : Tb} {i : Nat} {U : PX → MS} {x : PX} : tryK tb i U x σ h = tryX i U x σ h (tb x.cls) := (rfl)
theorem q212 {σ : PSt} {h : PH} {i : Nat} {U : PX → MS} {x : PX} : tryX i U x σ h (some true) = if i < σ.length then (U x (σ.set i (some (.val .bad))) h).sui i else .stk := (rfl)
theorem q213 {σ : PSt} {h : PH} {i : Nat} {U : PX → MS} {x : PX} : tryX i U x σ h (some false) = .ex x σ h := (rfl)
theorem q214 {σ : PSt} {h : PH} {M N : MS} {tb : Tb} : mTryO tb M N σ h = (M σ h).catch (tryOK tb N) := (rfl)
theorem q215 {σ : PSt} {h : PH} {tb : Tb} {N : MS} {x : PX} : tryOK tb N x σ h = tryOX N x σ h (tb x.cls) := (rfl)
theorem q216 {σ : PSt} {h : PH} {N : MS} {x : PX} : tryOX N x σ h (some true) = (N σ h).suiE := (rfl)
theorem q217 {σ : PSt} {h : PH} {N : MS} {x : PX} : tryOX N x σ h (some false) = .ex x σ h := (rfl)
theorem q218 {σ : PSt} {h : PH} {b : Bool} {x : PX} {tb : Tb} : rXI tb x σ h = og ((tb x.cls).map fun b => .val (.bl b)) σ h := (rfl)
theorem q219 {σ : PSt} {h : PH} {tbs : Str → Bool} {x : PX} {s : Str} : rXF tbs x s σ h = if tbs x.cls = true then og ((x.fs.lookup s).map .val) σ h else .stk := (rfl)
theorem q220 {p : PV} : List.lookup ("word" : Str) ([("word", p)] : List (Str × PV)) = some p := by simp [List.lookup]
theorem q221 {p a : PV} : List.lookup ("word" : Str) ([("line", a), ("word", p)] : List (Str × PV)) = some p := by rw [List.lookup_cons]; rw [show (("word" : Str) == "line") = false by decide]; simp [List.lookup]
theorem q222 {p a : PV} : List.lookup ("line" : Str) ([("line", a), ("word", p)] : List (Str × PV)) = some a := by simp [List.lookup]
theorem q223 {σ : PSt} {h : PH} {A B : ME} : rIfX (some true) A B σ h = A σ h := (rfl)
theorem q224 {σ : PSt} {h : PH} {A B : ME} : rIfX (some false) A B σ h = B σ h := (rfl)
theorem q225 {σ : PSt} {h : PH} {M N : MS} : mIfX (some true) M N σ h = M σ h := (rfl)
theorem q226 {σ : PSt} {h : PH} {M N : MS} : mIfX (some false) M N σ h = N σ h := (rfl)
theorem q227 {σ : PSt} {h : PH} {M : MS} {i : Nat} : mLay i M σ h = (M σ h).seq (layK1 i) := (rfl)
theorem q228 {σ : PSt} {h : PH} {p : PV} : vw σ h (.val p) = vwp h p := (rfl)
theorem q229 {σ : PSt} {h : PH} {o : PO} : vw σ h (.own o) = o.pv := (rfl)
theorem q230 {σ : PSt} {h : PH} {i : Nat} : vw σ h (.bor i) = vwS h σ[i]? := (rfl)
theorem q231 {h : PH} {p : PV} : vwS h (some (some (.val p))) = vwp h p := (rfl)
theorem q232 {h : PH} {o : PO} : vwS h (some (some (.own o))) = o.pv := (rfl)
theorem q233 {h : PH} : vwp h (.non) = .non := (rfl)
theorem q234 {h : PH} {b : Bool} : vwp h (.bl b) = .bl b := (rfl)
theorem q235 {h : PH} {k : Int} : vwp h (.int k) = .int k := (rfl)
theorem q236 {h : PH} {xs : List PV} : vwp h (.tup xs) = .tup xs := (rfl)
theorem q237 {h : PH} {xs : List PV} : vwp h (.lst xs) = .lst xs := (rfl)
theorem q238 {h : PH} {xs : List PV} : vwp h (.rdl xs) = .rdl xs := (rfl)
theorem q239 {h : PH} {s : Str} : vwp h (.str s) = .str s := (rfl)
theorem q240 {h : PH} {s : L2.V} : vwp h (.cst s) = .cst s := (rfl)
theorem q241 {h : PH} {s : List (Key × PV)} : vwp h (.dK s) = .dK s := (rfl)
theorem q242 {xs : List PV} : (PO.lst xs).pv = .lst xs := (rfl)
theorem q243 {p : PV} : pend (.val p) = .val p := (rfl)
theorem q244 {i : Nat} : pend (.bor i) = .bor i := (rfl)
theorem q245 {o : PO} : pend (.own o) = .val o.pv := (rfl)
theorem q246 {p : PV} : keepO (.val p) = .val p := (rfl)
theorem q247 {i : Nat} : keepO (.bor i) = .bor i := (rfl)
theorem q248 {xs : List PV} : keepO (.own (.lst xs)) = .own (.lst xs) := (rfl)
theorem q249 {i j : Int} : gAdd (.int i) (.int j) = vI (i + j) := (rfl)
theorem q250 {a b : Str} : gAdd (.str a) (.str b) = if a.length + b.length ≤ sizeLine then some (.val (.str (a ++ b))) else none := (rfl)
theorem q251 {a b : List PV} : gAdd (.lst a) (.lst b) = if a.length + b.length ≤ sizeLine then some (.own (.lst (a ++ b))) else none := (rfl)
theorem q252 {a b : List PV} : gAdd (.tup a) (.tup b) = if a.length + b.length ≤ sizeLine then some (.val (.tup (a ++ b))) else none := (rfl)
theorem q253 {i j : Int} : gIAdd (.int i) (.int j) = vI (i + j) := (rfl)
theorem q254 {a b : Str} : gIAdd (.str a) (.str b) = if a.length + b.length ≤ sizeLine then some (.val (.str (a ++ b))) else none := (rfl)
theorem q255 {i j : Int} : gSub (.int i) (.int j) = vI (i - j) := (rfl)
theorem q256 {i j : Int} : gMul (.int i) (.int j) = if CMulD i j then vI (i * j) else none := (rfl)
theorem q257 {xs : List PV} {k : Int} : gMul (.lst xs) (.int k) = if (-(2 ^ 63) ≤ k ∧ k < 2 ^ 63) ∧ xs.length * k.toNat ≤ sizeLine then some (.own (.lst (repP xs k))) else none := (rfl)
theorem q258 {a : Str} {k : Int} : gMul (.str a) (.int k) = if CMulT a k then some (.val (.str (Txt.mul a k))) else none := (rfl)
theorem q259 {xs : List PV} {k : Int} : gMul (.tup xs) (.int k) = if (-(2 ^ 63) ≤ k ∧ k ≤ 1000) ∧ xs.length ≤ 1000 ∧ xs.isEmpty = false then some (.val (.tup (repP xs k))) else none := (rfl)
theorem q260 {xs : List PV} : seqW (.lst xs) = some xs := (rfl)
theorem q261 {xs : List PV} : seqW (.tup xs) = some xs := (rfl)
theorem q262 {xs : List PV} : seqW (.rdl xs) = some xs := (rfl)
theorem q263 {z : Str} : seqW (.str z) = some (sgP z) := (rfl)
theorem q264 {z : Str} : gLstC [.str z] = if z.length ≤ sizeLine then some (.own (.lst (sgP z))) else none := (rfl)
theorem q265 {a : Str} : gInt [.str a] = oIT a (PySem.intText? a) := (by show (match PySem.intText? a with | some n => if a.length ≤ 640 then vI n else none | none => none) = _; unfold oIT vI; cases PySem.intText? a <;> rfl)
theorem q266 {a : Str} {n : Int} : oIT a (some n) = if a.length ≤ 640 then some (.val (.int n)) else none := (rfl)
theorem q267 {i : Int} : gStrC [.int i] = if i.natAbs.log2 < 1920 then some (.val (.str (toString i))) else none := (rfl)
theorem q268 {a : Str} : gStrC [.str a] = some (.val (.str a)) := (rfl)
theorem q269 {a : Str} : gOrd [.str a] = if a.length = 1 then some (.val (.int (a.cps.getD 0 0 : Nat))) else none := (rfl)
theorem q270 {g : Str → List PV → Option EV} {A : ME} {L : MA} {σ : PSt} {h : PH} : rMet g A L σ h = (A σ h).bind (meK1 g L) := (rfl)
theorem q271 {g : Str → List PV → Option EV} {L : MA} {a : Str} {σ : PSt} {h : PH} : meK1 g L (.val (.str a)) σ h = (L σ h).bind (meK2 g a) := (rfl)
theorem q272 {g : Str → List PV → Option EV} {a : Str} {es : List EV} {σ : PSt} {h : PH} : meK2 g a es σ h = og (g a (es.map (vw σ h))) σ h := (rfl)
theorem q273 {a b : Bool} : gIs (.bl a) (.bl b) = some (.val (.bl (decide (a = b)))) := (rfl)
theorem q274 {a b : Bool} : gIsN (.bl a) (.bl b) = some (.val (.bl (!(decide (a = b))))) := (rfl)
theorem q275 {a : Str} {xs : List PV} : gJoin a [.lst xs] = (strL xs).bind (joinF a) := (rfl)
theorem q276 {a : Str} {xs : List PV} : gJoin a [.tup xs] = (strL xs).bind (joinF a) := (rfl)
theorem q277 {a : Str} {xs : List PV} : gJoin a [.rdl xs] = (strL xs).bind (joinF a) := (rfl)
theorem q278  : strL [] = some [] := (rfl)
theorem q279 {i : Str} {xs : List PV} : strL (.str i :: xs) = (strL xs).map (i :: ·) := (rfl)
theorem q280 {ns : List Str} : strL (ns.map .str) = some ns := strL_map ns
theorem q281 {a : Str} {ys : List Str} : joinF a ys = if (ys.map (·.length)).sum + ys.length * a.length ≤ 16777216 then some (.val (.str (Txt.join a ys))) else none := (rfl)
theorem q282 {a b : Str} : gTidx a [.str b] = oIx (Builtin.Str.occurrences a b 0 a.length 1) := (by show (match Builtin.Str.occurrences a b 0 a.length 1 with | i :: _ => some (EV.val (.int (i : Nat))) | [] => none) = _; unfold oIx; cases Builtin.Str.occurrences a b 0 a.length 1 <;> rfl)
theorem q283 {i : Nat} {r : List Nat} : oIx (i :: r) = some (.val (.int (i : Nat))) := (rfl)
theorem q284 {s z : Str} : pInB (.str s) (.str z) = (sgn s).map fun c => decide (c ∈ z.cps.toList) := (rfl)
theorem q285 {c : Nat} : sgn ⟨#[c]⟩ = some c := (rfl)
theorem q286 {i j : Int} : gIMul (.int i) (.int j) = if CMul i j then vI (i * j) else none := (rfl)
theorem q287 {i j : Int} : gFd (.int i) (.int j) = if CDivW i j then vI (i / j) else none := (rfl)
theorem q288 {i j : Int} : gMod (.int i) (.int j) = if 0 < j then vI (i % j) else none := (rfl)
theorem q289 {i j : Int} : gPow (.int i) (.int j) = if CPow i j then vI (i ^ j.toNat) else none := (rfl)
theorem q290 {i j : Int} : gLt (.int i) (.int j) = vB (decide (i < j)) := (rfl)
theorem q291 {i j : Int} : gLe (.int i) (.int j) = vB (decide (i ≤ j)) := (rfl)
theorem q292 {i j : Int} : gGt (.int i) (.int j) = vB (decide (j < i)) := (rfl)
theorem q293 {i j : Int} : gGe (.int i) (.int j) = vB (decide (j ≤ i)) := (rfl)
theorem q294 {x y : PV} : gEq x y = oB (pEqB x y) := (rfl)
theorem q295 {x y : PV} : gNe x y = oN (pEqB x y) := (rfl)
theorem q296 {x : PV} : gIs x .non = oB (isNon x) := by cases x <;> rfl
theorem q297 {x : PV} : gIsN x .non = oN (isNon x) := by cases x <;> rfl
theorem q298 {x y : PV} : gIn x y = oB (pInB x y) := by unfold gIn; cases pInB x y <;> rfl
theorem q299 {x y : PV} : gNin x y = oN (pInB x y) := by unfold gNin; cases pInB x y <;> rfl
theorem q300 {b : Bool} : oB (some b) = some (.val (.bl b)) := (rfl)
theorem q301 {b : Bool} : oN (some b) = some (.val (.bl (!b))) := (rfl)
theorem q302 {i : Int} : vI i = some (.val (.int i)) := (rfl)
theorem q303 {i : Bool} : vB i = some (.val (.bl i)) := (rfl)
theorem q304 {z : Str} {i : Int} : gIx (.str z) (.int i) = if z.length ≤ sizeLine then (atI z.cps.toList i).map fun c => .val (.str ⟨#[c]⟩) else none := (rfl)
theorem q305 {xs : List PV} {i : Int} : gIx (.lst xs) (.int i) = (atI xs i).map .val := (rfl)
theorem q306 {xs : List PV} {i : Int} : gIx (.tup xs) (.int i) = (atI xs i).map .val := (rfl)
theorem q307 {xs : List PV} {i : Int} : gIx (.rdl xs) (.int i) = (atI xs i).map .val := (rfl)
theorem q308 {xs : List PV} : seqOf (.lst xs) = some xs := (rfl)
theorem q309 {xs : List PV} : seqOf (.tup xs) = some xs := (rfl)
theorem q310 {xs : List PV} : seqOf (.rdl xs) = some xs := (rfl)
theorem q311 {i j : Int} : pEqB (.int i) (.int j) = some (decide (i = j)) := (rfl)
theorem q312 {i j : Str} : pEqB (.str i) (.str j) = some (decide (i = j)) := (rfl)
theorem q313 {i j : Bool} : pEqB (.bl i) (.bl j) = some (decide (i = j)) := (rfl)
theorem q314  : pEqB .non .non = some true := (rfl)
theorem q315 {i : Int} : pEqB (.non) (.int i) = some false := (rfl)
theorem q316 {i : Int} : pEqB (.int i) (.non) = some false := (rfl)
theorem q317 {u : Bool} : pEqB (.non) (.bl u) = some false := (rfl)
theorem q318 {u : Bool} : pEqB (.bl u) (.non) = some false := (rfl)
theorem q319 {s : Str} : pEqB (.non) (.str s) = some false := (rfl)
theorem q320 {s : Str} : pEqB (.str s) (.non) = some false := (rfl)
theorem q321 {i : Int} {s : Str} : pEqB (.int i) (.str s) = some false := (rfl)
theorem q322 {i : Int} {s : Str} : pEqB (.str s) (.int i) = some false := (rfl)
theorem q323 {u : Bool} {s : Str} : pEqB (.bl u) (.str s) = some false := (rfl)
theorem q324 {u : Bool} {s : Str} : pEqB (.str s) (.bl u) = some false := (rfl)
theorem q325  : isNon (.non) = some true := (rfl)
theorem q326 {u : Bool} : isNon (.bl u) = some false := (rfl)
theorem q327 {i : Int} : isNon (.int i) = some false := (rfl)
theorem q328 {s : Str} : isNon (.str s) = some false := (rfl)
theorem q329 {xs : List PV} : isNon (.tup xs) = some false := (rfl)
theorem q330 {xs : List PV} : isNon (.lst xs) = some false := (rfl)
theorem q331 {xs : List PV} : isNon (.rdl xs) = some false := (rfl)
theorem q332 {a : Addr} : isNon (.ref a) = some false := (rfl)
theorem q333 {d : List (Key × PV)} : isNon (.dK d) = some false := (rfl)
theorem q334 {xs : List PV} : gLen [.lst xs] = vI (xs.length : Nat) := (rfl)
theorem q335 {xs : List PV} : gLen [.tup xs] = vI (xs.length : Nat) := (rfl)
theorem q336 {xs : List PV} : gLen [.rdl xs] = vI (xs.length : Nat) := (rfl)
theorem q337 {s : Str} : gLen [.str s] = if s.length ≤ sizeLine then vI (s.length : Nat) else none := by show (match (if s.length ≤ sizeLine then some s.length else none) with | some n => vI n | none => none) = _; by_cases c : s.length ≤ sizeLine; (rw [if_pos c, if_pos c]); (rw [if_neg c, if_neg c])
theorem q338 {i : Int} : gInt [.int i] = vI i := (rfl)
theorem q339 {b : Bool} : gInt [.bl b] = vI (if b = true then 1 else 0) := (rfl)
theorem q340 {i : Int} : gAbs [.int i] = vI (if i < 0 then -i else i) := (rfl)
theorem q341 {i j : Int} : gMax [.int i, .int j] = vI (if j > i then j else i) := (rfl)
theorem q342 {i j : Int} : gMin [.int i, .int j] = vI (if j < i then j else i) := (rfl)
theorem q343 {xs : List PV} : gTupC [.lst xs] = some (.val (.tup xs)) := (rfl)
theorem q344 {xs : List PV} : gTupC [.tup xs] = some (.val (.tup xs)) := (rfl)
theorem q345 {xs : List PV} : gTupC [.rdl xs] = some (.val (.tup xs)) := (rfl)
theorem q346 {xs : List PV} : gLstC [.lst xs] = some (.own (.lst xs)) := (rfl)
theorem q347 {xs : List PV} : gLstC [.tup xs] = some (.own (.lst xs)) := (rfl)
theorem q348 {xs : List PV} : gLstC [.rdl xs] = some (.own (.lst xs)) := (rfl)
theorem q349 {xs : List PV} : gSum [.lst xs] = oI ((intL xs).map List.sum) := (by show gSum [.lst xs] = _; unfold gSum oI; show (match (some xs).bind intL with | some ns => vI ns.sum | none => none) = _; cases h : intL xs <;> simp [h])
theorem q350 {xs : List PV} : gSum [.tup xs] = oI ((intL xs).map List.sum) := (by show gSum [.tup xs] = _; unfold gSum oI; show (match (some xs).bind intL with | some ns => vI ns.sum | none => none) = _; cases h : intL xs <;> simp [h])
theorem q351 {xs : List PV} : gSum [.rdl xs] = oI ((intL xs).map List.sum) := (by show gSum [.rdl xs] = _; unfold gSum oI; show (match (some xs).bind intL with | some ns => vI ns.sum | none => none) = _; cases h : intL xs <;> simp [h])
theorem q352 {xs : List PV} : gMax [.lst xs] = oI ((intL xs).bind List.max?) := (by unfold gMax oI; rfl)
theorem q353 {xs : List PV} : gMin [.lst xs] = oI ((intL xs).bind List.min?) := (by unfold gMin oI; rfl)
theorem q354 {xs : List PV} : gMax [.tup xs] = oI ((intL xs).bind List.max?) := (by unfold gMax oI; rfl)
theorem q355 {xs : List PV} : gMin [.tup xs] = oI ((intL xs).bind List.min?) := (by unfold gMin oI; rfl)
theorem q356 {xs : List PV} : gMax [.rdl xs] = oI ((intL xs).bind List.max?) := (by unfold gMax oI; rfl)
theorem q357 {xs : List PV} : gMin [.rdl xs] = oI ((intL xs).bind List.min?) := (by unfold gMin oI; rfl)
theorem q358 {i : Int} : oI (some i) = some (.val (.int i)) := (rfl)
theorem q359 {xs : List PV} : gSortI [.lst xs] = oL ((intL xs).map sortI) := (by show (intL xs).map (fun ns => EV.own (PO.lst ((sortI ns).map .int))) = _; unfold oL; cases h : intL xs <;> simp [h])
theorem q360 {ns : List Int} : oL (some ns) = some (.own (.lst (ns.map .int))) := (rfl)
theorem q361 {xs : List PV} : gAll [.lst xs] = oB ((blL xs).map fun bs => bs.all fun b => b) := (by unfold gAll oB; show (match blL xs with | some bs => vB (bs.all fun b => b) | none => none) = _; cases blL xs <;> rfl)
theorem q362 {xs : List PV} : gAny [.lst xs] = oB ((blL xs).map fun bs => bs.any fun b => b) := (by unfold gAny oB; show (match blL xs with | some bs => vB (bs.any fun b => b) | none => none) = _; cases blL xs <;> rfl)
theorem q363 {xs : List PV} : gAll [.rdl xs] = oB ((blL xs).map fun bs => bs.all fun b => b) := (by unfold gAll oB; show (match blL xs with | some bs => vB (bs.all fun b => b) | none => none) = _; cases blL xs <;> rfl)
theorem q364 {xs : List PV} : gAny [.rdl xs] = oB ((blL xs).map fun bs => bs.any fun b => b) := (by unfold gAny oB; show (match blL xs with | some bs => vB (bs.any fun b => b) | none => none) = _; cases blL xs <;> rfl)
theorem q365  : intL [] = some [] := (rfl)
theorem q366 {i : Int} {xs : List PV} : intL (.int i :: xs) = (intL xs).map (i :: ·) := (rfl)
theorem q367 {ns : List Int} : intL (ns.map .int) = some ns := intL_map ns
theorem q368  : blL [] = some [] := (rfl)
theorem q369 {i : Bool} {xs : List PV} : blL (.bl i :: xs) = (blL xs).map (i :: ·) := (rfl)
theorem q370  : gIsi [.non, .cst (.ty "int")] = some (.val (.bl false)) := (by unfold gIsi tyOf; simp [tyKnown, isTy, vB])
theorem q371  : gIsi [.non, .cst (.ty "str")] = some (.val (.bl false)) := (by unfold gIsi tyOf; simp [tyKnown, isTy, vB])
theorem q372  : gIsi [.non, .cst (.ty "bool")] = some (.val (.bl false)) := (by unfold gIsi tyOf; simp [tyKnown, isTy, vB])
theorem q373  : gIsi [.non, .cst (.ty "tuple")] = some (.val (.bl false)) := (by unfold gIsi tyOf; simp [tyKnown, isTy, vB])
theorem q374  : gIsi [.non, .cst (.ty "list")] = some (.val (.bl false)) := (by unfold gIsi tyOf; simp [tyKnown, isTy, vB])
theorem q375  : gIsi [.non, .cst (.ty "dict")] = some (.val (.bl false)) := (by unfold gIsi tyOf; simp [tyKnown, isTy, vB])
theorem q376 {u : Bool} : gIsi [.bl u, .cst (.ty "int")] = some (.val (.bl true)) := (by unfold gIsi tyOf; simp [tyKnown, isTy, vB])
theorem q377 {u : Bool} : gIsi [.bl u, .cst (.ty "str")] = some (.val (.bl false)) := (by unfold gIsi tyOf; simp [tyKnown, isTy, vB])
theorem q378 {u : Bool} : gIsi [.bl u, .cst (.ty "bool")] = some (.val (.bl true)) := (by unfold gIsi tyOf; simp [tyKnown, isTy, vB])
theorem q379 {u : Bool} : gIsi [.bl u, .cst (.ty "tuple")] = some (.val (.bl false)) := (by unfold gIsi tyOf; simp [tyKnown, isTy, vB])
theorem q380 {u : Bool} : gIsi [.bl u, .cst (.ty "list")] = some (.val (.bl false)) := (by unfold gIsi tyOf; simp [tyKnown, isTy, vB])
theorem q381 {u : Bool} : gIsi [.bl u, .cst (.ty "dict")] = some (.val (.bl false)) := (by unfold gIsi tyOf; simp [tyKnown, isTy, vB])
theorem q382 {i : Int} : gIsi [.int i, .cst (.ty "int")] = some (.val (.bl true)) := (by unfold gIsi tyOf; simp [tyKnown, isTy, vB])
theorem q383 {i : Int} : gIsi [.int i, .cst (.ty "str")] = some (.val (.bl false)) := (by unfold gIsi tyOf; simp [tyKnown, isTy, vB])
theorem q384 {i : Int} : gIsi [.int i, .cst (.ty "bool")] = some (.val (.bl false)) := (by unfold gIsi tyOf; simp [tyKnown, isTy, vB])
theorem q385 {i : Int} : gIsi [.int i, .cst (.ty "tuple")] = some (.val (.bl false)) := (by unfold gIsi tyOf; simp [tyKnown, isTy, vB])
theorem q386 {i : Int} : gIsi [.int i, .cst (.ty "list")] = some (.val (.bl false)) := (by unfold gIsi tyOf; simp [tyKnown, isTy, vB])
theorem q387 {i : Int} : gIsi [.int i, .cst (.ty "dict")] = some (.val (.bl false)) := (by unfold gIsi tyOf; simp [tyKnown, isTy, vB])
theorem q388 {s : Str} : gIsi [.str s, .cst (.ty "int")] = some (.val (.bl false)) := (by unfold gIsi tyOf; simp [tyKnown, isTy, vB])
theorem q389 {s : Str} : gIsi [.str s, .cst (.ty "str")] = some (.val (.bl true)) := (by unfold gIsi tyOf; simp [tyKnown, isTy, vB])
theorem q390 {s : Str} : gIsi [.str s, .cst (.ty "bool")] = some (.val (.bl false)) := (by unfold gIsi tyOf; simp [tyKnown, isTy, vB])
theorem q391 {s : Str} : gIsi [.str s, .cst (.ty "tuple")] = some (.val (.bl false)) := (by unfold gIsi tyOf; simp [tyKnown, isTy, vB])
theorem q392 {s : Str} : gIsi [.str s, .cst (.ty "list")] = some (.val (.bl false)) := (by unfold gIsi tyOf; simp [tyKnown, isTy, vB])
theorem q393 {s : Str} : gIsi [.str s, .cst (.ty "dict")] = some (.val (.bl false)) := (by unfold gIsi tyOf; simp [tyKnown, isTy, vB])
theorem q394 {xs : List PV} : gIsi [.tup xs, .cst (.ty "int")] = some (.val (.bl false)) := (by unfold gIsi tyOf; simp [tyKnown, isTy, vB])
theorem q395 {xs : List PV} : gIsi [.tup xs, .cst (.ty "str")] = some (.val (.bl false)) := (by unfold gIsi tyOf; simp [tyKnown, isTy, vB])
theorem q396 {xs : List PV} : gIsi [.tup xs, .cst (.ty "bool")] = some (.val (.bl false)) := (by unfold gIsi tyOf; simp [tyKnown, isTy, vB])
theorem q397 {xs : List PV} : gIsi [.tup xs, .cst (.ty "tuple")] = some (.val (.bl true)) := (by unfold gIsi tyOf; simp [tyKnown, isTy, vB])
theorem q398 {xs : List PV} : gIsi [.tup xs, .cst (.ty "list")] = some (.val (.bl false)) := (by unfold gIsi tyOf; simp [tyKnown, isTy, vB])
theorem q399 {xs : List PV} : gIsi [.tup xs, .cst (.ty "dict")] = some (.val (.bl false)) := (by unfold gIsi tyOf; simp [tyKnown, isTy, vB])
theorem q400 {xs : List PV} : gIsi [.lst xs, .cst (.ty "int")] = some (.val (.bl false)) := (by unfold gIsi tyOf; simp [tyKnown, isTy, vB])
theorem q401 {xs : List PV} : gIsi [.lst xs, .cst (.ty "str")] = some (.val (.bl false)) := (by unfold gIsi tyOf; simp [tyKnown, isTy, vB])
theorem q402 {xs : List PV} : gIsi [.lst xs, .cst (.ty "bool")] = some (.val (.bl false)) := (by unfold gIsi tyOf; simp [tyKnown, isTy, vB])
theorem q403 {xs : List PV} : gIsi [.lst xs, .cst (.ty "tuple")] = some (.val (.bl false)) := (by unfold gIsi tyOf; simp [tyKnown, isTy, vB])
theorem q404 {xs : List PV} : gIsi [.lst xs, .cst (.ty "list")] = some (.val (.bl true)) := (by unfold gIsi tyOf; simp [tyKnown, isTy, vB])
theorem q405 {xs : List PV} : gIsi [.lst xs, .cst (.ty "dict")] = some (.val (.bl false)) := (by unfold gIsi tyOf; simp [tyKnown, isTy, vB])
theorem q406 {d : List (Key × PV)} : gIsi [.dK d, .cst (.ty "int")] = some (.val (.bl false)) := (by unfold gIsi tyOf; simp [tyKnown, isTy, vB])
theorem q407 {d : List (Key × PV)} : gIsi [.dK d, .cst (.ty "str")] = some (.val (.bl false)) := (by unfold gIsi tyOf; simp [tyKnown, isTy, vB])
theorem q408 {d : List (Key × PV)} : gIsi [.dK d, .cst (.ty "bool")] = some (.val (.bl false)) := (by unfold gIsi tyOf; simp [tyKnown, isTy, vB])
theorem q409 {d : List (Key × PV)} : gIsi [.dK d, .cst (.ty "tuple")] = some (.val (.bl false)) := (by unfold gIsi tyOf; simp [tyKnown, isTy, vB])
theorem q410 {d : List (Key × PV)} : gIsi [.dK d, .cst (.ty "list")] = some (.val (.bl false)) := (by unfold gIsi tyOf; simp [tyKnown, isTy, vB])
theorem q411 {d : List (Key × PV)} : gIsi [.dK d, .cst (.ty "dict")] = some (.val (.bl true)) := (by unfold gIsi tyOf; simp [tyKnown, isTy, vB])
theorem q412 {i : Int} : truB (.int i) = some (i != 0) := (rfl)
theorem q413 {u : Bool} : truB (.bl u) = some (u) := (rfl)
theorem q414  : truB (.non) = some (false) := (rfl)
theorem q415 {xs : List PV} : truB (.lst xs) = some (!xs.isEmpty) := (rfl)
theorem q416 {xs : List PV} : truB (.tup xs) = some (!xs.isEmpty) := (rfl)
theorem q417 {xs : List PV} : truB (.rdl xs) = some (!xs.isEmpty) := (rfl)
theorem q418 {d : List (Key × PV)} : truB (.dK d) = some (!d.isEmpty) := (rfl)
theorem q419 {s : Str} : truB (.str s) = if s.length ≤ sizeLine then some ((s.length : Int) != 0) else none := (rfl)
theorem q420  : ∀ {α : Type} {c : Prop} [Decidable c] {a b : α} {σ : PSt} {h : PH}, (if c then Rs.ok a σ h else Rs.ok b σ h) = Rs.ok (if c then a else b) σ h := by intro α c _ a b σ h; split <;> rfl
theorem q421  : ∀ {α β : Type} {c : Prop} [Decidable c] {r s : Rs α} {k : α → PSt → PH → Rs β}, (if c then r else s).bind k = if c then r.bind k else s.bind k := by intro α β c _ r s k; split <;> rfl
theorem q422  : ∀ {α : Type} {c : Prop} [Decidable c] {r s : Rs α} {k : α → PSt → PH → Ss}, bindS (if c then r else s) k = if c then bindS r k else bindS s k := by intro α c _ r s k; split <;> rfl
theorem q423  : ∀ {α : Type} {c : Prop} [Decidable c] {r s : Rs α}, (if c then r else s).noex = if c then r.noex else s.noex := by intro α c _ r s; split <;> rfl
theorem q424 {c : Prop} [Decidable c] {p q : PV} : (if c then EV.val p else EV.val q) = EV.val (if c then p else q) := by split <;> rfl
theorem q425 {c : Prop} [Decidable c] {p q : PO} : (if c then EV.own p else EV.own q) = EV.own (if c then p else q) := by split <;> rfl
theorem q426 {c : Prop} [Decidable c] {p q : Int} : (if c then PV.int p else PV.int q) = PV.int (if c then p else q) := by split <;> rfl
theorem q427 {c : Prop} [Decidable c] {p q : Bool} : (if c then PV.bl p else PV.bl q) = PV.bl (if c then p else q) := by split <;> rfl
theorem q428 {c : Prop} [Decidable c] {p q : Str} : (if c then PV.str p else PV.str q) = PV.str (if c then p else q) := by split <;> rfl
theorem q429 {c : Prop} [Decidable c] {p q : List PV} : (if c then PV.tup p else PV.tup q) = PV.tup (if c then p else q) := by split <;> rfl
theorem q430 {c : Prop} [Decidable c] {p q : List PV} : (if c then PV.lst p else PV.lst q) = PV.lst (if c then p else q) := by split <;> rfl
theorem q431 {c : Prop} [Decidable c] {p q : List PV} : (if c then PO.lst p else PO.lst q) = PO.lst (if c then p else q) := by split <;> rfl
theorem qsI {c : Prop} [Decidable c] {r s : Ss} {k : MS} : (if c then r else s).seq k = if c then r.seq k else s.seq k := by split <;> rfl
theorem qlI {c : Prop} [Decidable c] {r s : Ss} {k : MS} : (if c then r else s).loop k = if c then r.loop k else s.loop k := by split <;> rfl
theorem qcI {c : Prop} [Decidable c] {r s : Ss} {k : PX → MS} : (if c then r else s).catch k = if c then r.catch k else s.catch k := by split <;> rfl
theorem quI {c : Prop} [Decidable c] {r s : Ss} {i : Nat} : (if c then r else s).sui i = if c then r.sui i else s.sui i := by split <;> rfl
theorem qeI {c : Prop} [Decidable c] {r s : Ss} : (if c then r else s).suiE = if c then r.suiE else s.suiE := by split <;> rfl
theorem qtI {c : Prop} [Decidable c] {r s : Ss} : toF (if c then r else s) = if c then toF r else toF s := by split <;> rfl
theorem qfI {c : Prop} [Decidable c] {r s : Fs} {σ : PSt} : lift (if c then r else s) σ = if c then lift r σ else lift s σ := by split <;> rfl
theorem qm1 {c : Prop} [Decidable c] {σ σ1 : PSt} {h : PH} : (if c then Ss.nx σ h else Ss.nx σ1 h) = Ss.nx (if c then σ else σ1) h := by split <;> rfl
theorem qm2 {c : Prop} [Decidable c] {a b : Option SV} {σ σ1 : PSt} : (if c then a :: σ else b :: σ1) = (if c then a else b) :: (if c then σ else σ1) := by split <;> rfl
theorem qm3 {c : Prop} [Decidable c] {a b : SV} : (if c then some a else some b) = some (if c then a else b) := by split <;> rfl
theorem qm4 {c : Prop} [Decidable c] {a b : PV} : (if c then SV.val a else SV.val b) = SV.val (if c then a else b) := by split <;> rfl
theorem qm5 {c : Prop} [Decidable c] {a b : PO} : (if c then SV.own a else SV.own b) = SV.own (if c then a else b) := by split <;> rfl
theorem qm6 {c : Prop} [Decidable c] {p q : EV} {σ : PSt} {h : PH} : (if c then Ss.rt p σ h else Ss.rt q σ h) = Ss.rt (if c then p else q) σ h := by split <;> rfl
theorem qm7 {c : Prop} [Decidable c] {p q : EV} {h : PH} : (if c then Fs.ok p h else Fs.ok q h) = Fs.ok (if c then p else q) h := by split <;> rfl
theorem cmulR {i : Int} {n : Nat} (h : n < 18446744073709551616) : CMulD i (no_index (OfNat.ofNat n) : Int) := by unfold CMulD CMul; have e : (OfNat.ofNat n : Int) = (n : Int) := rfl; rw [e]; omega
theorem cmulL {i : Int} {n : Nat} (h : n < 18446744073709551616) : CMulD (no_index (OfNat.ofNat n) : Int) i := by unfold CMulD CMul; have e : (OfNat.ofNat n : Int) = (n : Int) := rfl; rw [e]; omega
theorem cdivL {i : Int} {n : Nat} (h : 0 < n) (h1 : n < 18446744073709551616) : CDivW i (no_index (OfNat.ofNat n) : Int) := cdiv_lit h h1
theorem fitL {n : Nat} (h : n < 4611686018427387904) : Fit (no_index (OfNat.ofNat n) : Int) := by unfold Fit; have e : (OfNat.ofNat n : Int) = (n : Int) := rfl; rw [e]; omega
theorem castL {n : Nat} : ((no_index (OfNat.ofNat n) : Nat) : Int) = OfNat.ofNat n := (rfl)
theorem cpowL {a b : Nat} (h : b < 1000001) (h1 : a < 18446744073709551616) : CPow (no_index (OfNat.ofNat a) : Int) (no_index (OfNat.ofNat b) : Int) := by have e : (OfNat.ofNat a : Int) = (a : Int) := rfl; have e1 : (OfNat.ofNat b : Int) = (b : Int) := rfl; unfold CPow; rw [e, e1]; omega
theorem q452 {h : PH} {a : Addr} : vwp h (.ref a) = vwR a (h a) := by unfold vwp vwR; rfl
theorem q453 {a : Addr} {xs : List PV} : vwR a (some (.lst xs)) = .lst xs := (rfl)
theorem atL {α : Type} {xs : List α} {n : Nat} : atI xs (no_index (OfNat.ofNat n) : Int) = xs[n]? := at_lit
theorem atN1 {α : Type} {xs : List α} : atI xs (-1) = xs.getLast? := at_neg1
theorem ixL {m n : Nat} : ixN m (no_index (OfNat.ofNat n) : Int) = if n < m then some n else none := ixN_lit
theorem q457 {i : Int} {xs : List PV} : pInB (.int i) (.lst xs) = (flatL xs).map (inV (.int i)) := by show (match flatP (.int i), (some xs).bind flatL with | some v, some vs => some (inV v vs) | _, _ => none) = _; show (match some (V.int i), flatL xs with | some v, some vs => some (inV v vs) | _, _ => none) = _; cases flatL xs <;> rfl
theorem q458 {i : Bool} {xs : List PV} : pInB (.bl i) (.lst xs) = (flatL xs).map (inV (.bl i)) := by show (match flatP (.bl i), (some xs).bind flatL with | some v, some vs => some (inV v vs) | _, _ => none) = _; show (match some (V.bl i), flatL xs with | some v, some vs => some (inV v vs) | _, _ => none) = _; cases flatL xs <;> rfl
theorem q459 {xs : List PV} : pInB .non (.lst xs) = (flatL xs).map (inV .non) := by show (match flatP .non, (some xs).bind flatL with | some v, some vs => some (inV v vs) | _, _ => none) = _; show (match some V.non, flatL xs with | some v, some vs => some (inV v vs) | _, _ => none) = _; cases flatL xs <;> rfl
theorem q460 {i : Str} {xs : List PV} : pInB (.str i) (.lst xs) = (flatL xs).map (inV (.str i)) := by show (match flatP (.str i), (some xs).bind flatL with | some v, some vs => some (inV v vs) | _, _ => none) = _; show (match some (V.str i), flatL xs with | some v, some vs => some (inV v vs) | _, _ => none) = _; cases flatL xs <;> rfl
theorem q461 {i : Int} {xs : List PV} : pInB (.int i) (.tup xs) = (flatL xs).map (inV (.int i)) := by show (match flatP (.int i), (some xs).bind flatL with | some v, some vs => some (inV v vs) | _, _ => none) = _; show (match some (V.int i), flatL xs with | some v, some vs => some (inV v vs) | _, _ => none) = _; cases flatL xs <;> rfl
theorem q462 {i : Bool} {xs : List PV} : pInB (.bl i) (.tup xs) = (flatL xs).map (inV (.bl i)) := by show (match flatP (.bl i), (some xs).bind flatL with | some v, some vs => some (inV v vs) | _, _ => none) = _; show (match some (V.bl i), flatL xs with | some v, some vs => some (inV v vs) | _, _ => none) = _; cases flatL xs <;> rfl
theorem q463 {xs : List PV} : pInB .non (.tup xs) = (flatL xs).map (inV .non) := by show (match flatP .non, (some xs).bind flatL with | some v, some vs => some (inV v vs) | _, _ => none) = _; show (match some V.non, flatL xs with | some v, some vs => some (inV v vs) | _, _ => none) = _; cases flatL xs <;> rfl
theorem q464 {i : Str} {xs : List PV} : pInB (.str i) (.tup xs) = (flatL xs).map (inV (.str i)) := by show (match flatP (.str i), (some xs).bind flatL with | some v, some vs => some (inV v vs) | _, _ => none) = _; show (match some (V.str i), flatL xs with | some v, some vs => some (inV v vs) | _, _ => none) = _; cases flatL xs <;> rfl
theorem q465 {i : Int} {xs : List PV} : pInB (.int i) (.rdl xs) = (flatL xs).map (inV (.int i)) := by show (match flatP (.int i), (some xs).bind flatL with | some v, some vs => some (inV v vs) | _, _ => none) = _; show (match some (V.int i), flatL xs with | some v, some vs => some (inV v vs) | _, _ => none) = _; cases flatL xs <;> rfl
theorem q466 {i : Bool} {xs : List PV} : pInB (.bl i) (.rdl xs) = (flatL xs).map (inV (.bl i)) := by show (match flatP (.bl i), (some xs).bind flatL with | some v, some vs => some (inV v vs) | _, _ => none) = _; show (match some (V.bl i), flatL xs with | some v, some vs => some (inV v vs) | _, _ => none) = _; cases flatL xs <;> rfl
theorem q467 {xs : List PV} : pInB .non (.rdl xs) = (flatL xs).map (inV .non) := by show (match flatP .non, (some xs).bind flatL with | some v, some vs => some (inV v vs) | _, _ => none) = _; show (match some V.non, flatL xs with | some v, some vs => some (inV v vs) | _, _ => none) = _; cases flatL xs <;> rfl
theorem q468 {i : Str} {xs : List PV} : pInB (.str i) (.rdl xs) = (flatL xs).map (inV (.str i)) := by show (match flatP (.str i), (some xs).bind flatL with | some v, some vs => some (inV v vs) | _, _ => none) = _; show (match some (V.str i), flatL xs with | some v, some vs => some (inV v vs) | _, _ => none) = _; cases flatL xs <;> rfl
theorem q469  : flatL [] = some [] := (rfl)
theorem q470 {i : Int} {xs : List PV} : flatL (.int i :: xs) = (flatL xs).map (V.int i :: ·) := by show (match some (V.int i), flatL xs with | some d, some ds => some (d :: ds) | _, _ => none) = _; cases flatL xs <;> rfl
theorem q471 {s : Str} {xs : List PV} : flatL (.str s :: xs) = (flatL xs).map (V.str s :: ·) := by show (match some (V.str s), flatL xs with | some d, some ds => some (d :: ds) | _, _ => none) = _; cases flatL xs <;> rfl
theorem q472 {u : Bool} {xs : List PV} : flatL (.bl u :: xs) = (flatL xs).map (V.bl u :: ·) := by show (match some (V.bl u), flatL xs with | some d, some ds => some (d :: ds) | _, _ => none) = _; cases flatL xs <;> rfl
theorem q473 {xs : List PV} : flatL (.non :: xs) = (flatL xs).map (V.non :: ·) := by show (match some (V.non), flatL xs with | some d, some ds => some (d :: ds) | _, _ => none) = _; cases flatL xs <;> rfl
theorem q474 {v : V} : inV v [] = false := (rfl)
theorem q475 {v w : V} {vs : List V} : inV v (w :: vs) = (eqV w v || inV v vs) := (rfl)
theorem q476 {a b : Int} : eqV (.int a) (.int b) = decide (b = a) := by show (a == b) = _; rw [Bool.eq_iff_iff]; simp; exact eq_comm
theorem q477 {a b : Str} : eqV (.str a) (.str b) = decide (b = a) := by show (a == b) = _; rw [Bool.eq_iff_iff]; simp; exact eq_comm
theorem q478 {i : Int} {s : Str} : eqV (.int i) (.str s) = false := (rfl)
theorem q479 {i : Int} : eqV (.int i) (.non) = false := (rfl)
theorem q480 {i : Int} {s : Str} : eqV (.str s) (.int i) = false := (rfl)
theorem q481 {s : Str} : eqV (.str s) (.non) = false := (rfl)
theorem q482 {s : Str} {u : Bool} : eqV (.str s) (.bl u) = false := (rfl)
theorem q483 {s : Str} {u : Bool} : eqV (.bl u) (.str s) = false := (rfl)
theorem q484 {u : Bool} : eqV (.bl u) (.non) = false := (rfl)
theorem q485 {i : Int} : eqV (.non) (.int i) = false := (rfl)
theorem q486 {s : Str} : eqV (.non) (.str s) = false := (rfl)
theorem q487 {u : Bool} : eqV (.non) (.bl u) = false := (rfl)
theorem q488  : eqV .non .non = true := (rfl)
theorem forR_nil {G : MG} {B : MS} {σ : PSt} {h : PH} : forI G B [] σ h = .nx σ h := by unfold forI; rfl
def forK (G : MG) (B : MS) (xs : List PV) : Unit → PSt → PH → Ss := fun _ σ h => (B σ h).loop (forI G B xs)
theorem forR_cons {G : MG} {B : MS} {x : PV} {xs : List PV} {σ : PSt} {h : PH} : forI G B (x :: xs) σ h = bindS (G x σ h).noex (forK G B xs) := by unfold forI forK forI; rfl
theorem forK_eq {G : MG} {B : MS} {xs : List PV} {u : Unit} {σ : PSt} {h : PH} : forK G B xs u σ h = (B σ h).loop (forI G B xs) := (rfl)
def lcK (G : MG) (C : MT) (A : ME) (vs : List Nat) (xs acc : List PV) : Option PV → PSt → PH → Rs (List PV)
  | some p, σ', h' => if acc.length < sizeLine then lcI G C A vs xs (acc ++ [p]) (wipeP σ' vs) h' else .stk
  | none, σ', h' => lcI G C A vs xs acc (wipeP σ' vs) h'
theorem lcR_nil {G : MG} {C : MT} {A : ME} {vs : List Nat} {acc : List PV} {σ : PSt} {h : PH} : lcI G C A vs [] acc σ h = .ok acc σ h := by unfold lcI; rfl
theorem lcR_cons {G : MG} {C : MT} {A : ME} {vs : List Nat} {x : PV} {xs acc : List PV} {σ : PSt} {h : PH} : lcI G C A vs (x :: xs) acc σ h = (lcE G C A x σ h).noex.bind (lcK G C A vs xs acc) := by
  have e : lcK G C A vs xs acc = fun o σ' h' => match o with
    | some p => if acc.length < sizeLine then lcR G C A vs xs (acc ++ [p]) (wipeP σ' vs) h' else .stk
    | none => lcR G C A vs xs acc (wipeP σ' vs) h' := by
    funext o σ' h'; cases o <;> (unfold lcK lcI; rfl)
  rw [e]; unfold lcI; rfl
theorem lcK_some {G : MG} {C : MT} {A : ME} {vs : List Nat} {p : PV} {xs acc : List PV} {σ : PSt} {h : PH} : lcK G C A vs xs acc (some p) σ h = if acc.length < sizeLine then lcI G C A vs xs (acc ++ [p]) (wipeP σ vs) h else .stk := (rfl)
theorem lcK_none {G : MG} {C : MT} {A : ME} {vs : List Nat} {xs acc : List PV} {σ : PSt} {h : PH} : lcK G C A vs xs acc none σ h = lcI G C A vs xs acc (wipeP σ vs) h := (rfl)
theorem wipe_nil {σ : PSt} : wipeP σ [] = σ := (rfl)
theorem wipe_cons {σ : PSt} {v : Nat} {vs : List Nat} : wipeP σ (v :: vs) = (wipeP σ vs).set v none := (rfl)
def backS : Option (Option SV) → Option SV
  | some (some (.val p)) => some (.val p)
  | _ => none
theorem back_nil {σ σ1 : PSt} : backP σ1 σ [] = σ := (rfl)
theorem back_cons {σ σ1 : PSt} {v : Nat} {vs : List Nat} : backP σ1 σ (v :: vs) = (backP σ1 σ vs).set v (backS σ1[v]?) := (rfl)
theorem backS_v {p : PV} : backS (some (some (.val p))) = some (.val p) := (rfl)
theorem backS_o {o : PO} : backS (some (some (.own o))) = none := (rfl)
theorem backS_n : backS (some none) = none := (rfl)
theorem whR_succ {C : MT} {B : MS} {n : Nat} {σ : PSt} {h : PH} : whR C B (n + 1) σ h = bindS (C σ h) (fun b σ1 h1 => if b = true then (B σ1 h1).loop (whR C B n) else .nx σ1 h1) := (rfl)
end PP
set_option Elab.async false
set_option linter.all false
set_option maxRecDepth 100000
set_option maxHeartbeats 4000000
namespace PP
open PySem PySem.Spec PyProof.Rows L2
section
variable {S : Sc} {e : Expr} {st : Stmt} {A B C : ME} {U : MT} {I : MI} {G : MG} {g g' : G2} {i : Nat} {vs : List Nat}
theorem x_tb2 (a : JT S e (wTb (w2 (gP g) (up A) (up B)))) : JT S e (up (rTb (r2 g A B))) := a.le up_mono fun σ h Q E q => wpm (wpb (wpb q)) fun ea σ1 h1 q => wpm (wpb q) fun eb σ2 h2 q => by
  obtain ⟨r, er, q⟩ := wp_og q
  refine ⟨r, er, ?_⟩
  match r, q with
  | .val (.bl k), q => exact ⟨k, rfl, q⟩
theorem x_tbc (a : JT S e (wTb (wChain (gP g) (gP g') (up A) (up B) (up C)))) : JT S e (up (rTb (rCh g g' A B C))) := a.le up_mono fun σ h Q E q => wpm (wpb (wpb q)) fun ea σ1 h1 q => wpm (wpb q) fun eb σ2 h2 q => by
  obtain ⟨r, er, q⟩ := wp_og (wpb q)
  refine ⟨r, er, ?_⟩
  match r, q with
  | .val (.bl k), q =>
    refine ⟨k, rfl, ?_⟩
    cases k with
    | true =>
      rw [if_pos rfl]
      refine wpm (wpb q) fun ec σ3 h3 q => ?_
      obtain ⟨r, er, q⟩ := wp_og q
      refine ⟨r, er, ?_⟩
      match r, q with
      | .val (.bl k), q => exact ⟨k, rfl, q⟩
    | false => exact ⟨false, rfl, q⟩
theorem y_lc (a : JS S st (sSet i (wLc (up I) (upG G) (up U) (up A) vs))) : JS S st (sSet i (up (rLc I G U A vs))) where
  mono := fun D D' σ h l q => wp_mono (fun e σ h q => by
    cases e with
    | own o => exact l.nx _ _ q
    | val p => exact l.nx _ _ q
    | bor j =>
      have q : share (.bor j) σ h (fun p σ1 h1 => D.nx (σ1.set i (some (.val p))) h1) := q
      exact share_mono (Q' := fun p σ1 h1 => D'.nx (σ1.set i (some (.val p))) h1) (fun p σ h q => l.nx _ _ q) q) (fun _ _ _ z => l.ex _ _ _ z) q
  run := fun X W At tk hp => ps_weak (a.run X W At tk hp) fun D σ H ⟨F, σp, h, s, q⟩ => ⟨F, σp, h, s, wpm (wpb q) fun items σ1 h1 q => wp_lcR (wpm (wpb q) fun ys σ2 h2 q => q)⟩
theorem y_aug (a : JS S st (sSet i (w2 (gP g) (wV i) (up A)))) : JS S st (upS (mSet i (r2 g (rV i) A))) := a.le upS_mono fun D σ h q => by
  have q1 : wp ((rV i σ h).bind (r2k1 g A)) _ _ := wpS_bindS.mp q
  have q2 := wpb q1
  have q2 : wp (getE i σ[i]? σ h) _ _ := q2
  show w2 (gP g) (wV i) (up A) σ h (putE i D.nx) D.ex
  unfold w2 wV
  have fin : ∀ (ea : EV), wp (r2k1 g A ea σ h) (fun e σ' h' => wpS (setK i e σ' h') D) D.ex → up A σ h (fun eb σ2 h2 => gP g (vw σ2 h2 (pend ea)) (vw σ2 h2 eb) fun r => putE i D.nx r σ2 h2) D.ex := fun ea q => wpm (wpb q) fun eb σ2 h2 q => by
    obtain ⟨r, er, q⟩ := wp_og q
    refine ⟨r, er, ?_⟩
    cases r with
    | val p => exact q
    | own o => exact q
    | bor j => exact wp_shR (E := D.ex) (wpm (ws q) fun p σ2 h2 q => q)
  match hs : σ[i]?, q2 with
  | some (some (.val p)), q => exact fin _ q
  | some (some (.own p)), q => exact fin _ q
  | some none, q => exact q.elim
  | none, q => exact q.elim
theorem tbn {tb : Option Bool} {Bp : Bool → Prop} (h : ∀ c, tb = some c → Bp c) : ∀ c, tb.map (!·) = some c → Bp (!c) := tb_not h
end
/-! is_integer(value) -/
def N_is_integer : List Str := ["value"]
def R_is_integer : MS :=
  (mRet (rAnd (rB gIsi (rCons (rV 0) (rCons (rC (.cst (.ty "int"))) rNil))) (rNot (rB gIsi (rCons (rV 0) (rCons (rC (.cst (.ty "bool"))) rNil))))))
@[irreducible] def F_is_integer : FN := runF N_is_integer R_is_integer
theorem F_is_integer_def : F_is_integer = runF N_is_integer R_is_integer := by unfold F_is_integer; rfl
theorem u_is_integer {a0 : PV} {h : PH} : F_is_integer [a0] h = toF (R_is_integer [some (.val a0)] h) := by rw [F_is_integer_def]; rfl
/-! _law_draws(script) -/
def N__law_draws : List Str := ["script"]
def R__law_draws : MS :=
  (mRet (rLst (rCons (rB gLstC (rCons (rV 0) rNil)) (rCons (rC (.int 0)) (rCons (rC (.int 0)) (rCons (rC (.int 1)) rNil))))))
@[irreducible] def F__law_draws : FN := runF N__law_draws R__law_draws
theorem F__law_draws_def : F__law_draws = runF N__law_draws R__law_draws := by unfold F__law_draws; rfl
theorem u__law_draws {a0 : PV} {h : PH} : F__law_draws [a0] h = toF (R__law_draws [some (.val a0)] h) := by rw [F__law_draws_def]; rfl
/-! _law_draw(draws, limit) -/
def N__law_draw : List Str := ["draws", "limit", "cell", "value"]
def R__law_draw : MS :=
  (mSeq (mIf (rAndT (rTb (r2 gEq (r2 gIx (rV 0) (rC (.int 2))) (rC (.int 0)))) (rTb (r2 gLt (r2 gIx (rV 0) (rC (.int 1))) (rB gLen (rCons (r2 gIx (rV 0) (rC (.int 0))) rNil))))) (mSeq (mSet 2 (r2 gIx (r2 gIx (rV 0) (rC (.int 0))) (r2 gIx (rV 0) (rC (.int 1)))))
    (mSeq (mAsg (r2 gAdd (r2 gIx (rV 0) (rC (.int 1))) (rC (.int 1))) (tS (rV 0) (rC (.int 1))))
    (mSeq (mIf (rTb (r2 gGe (rV 2) (r2 gPow (rC (.int 10)) (rC (.int 18))))) (mAsg (rV 2) (tS (rV 0) (rC (.int 2)))) mNx)
    (mAsg (r2 gMod (rB gInt (rCons (r2 gAdd (r2 gAdd (r2 gMul (r2 gIx (rV 0) (rC (.int 3))) (rC (.int 48271))) (rV 2)) (rC (.int 13))) rNil)) (rC (.int 2147483647))) (tS (rV 0) (rC (.int 3))))))) mNx)
    (mSeq (mIf (rTb (r2 gGt (r2 gIx (rV 0) (rC (.int 2))) (rC (.int 0)))) (mSeq (mSet 3 (r2 gMod (rB gInt (rCons (r2 gIx (rV 0) (rC (.int 2))) rNil)) (rV 1)))
    (mSeq (mAsg (r2 gFd (r2 gIx (rV 0) (rC (.int 2))) (rV 1)) (tS (rV 0) (rC (.int 2))))
    (mRet (rV 3)))) mNx)
    (mSeq (mAsg (r2 gMod (rB gInt (rCons (r2 gAdd (r2 gMul (r2 gIx (rV 0) (rC (.int 3))) (rC (.int 69621))) (rC (.int 7))) rNil)) (rC (.int 2147483629))) (tS (rV 0) (rC (.int 3))))
    (mRet (r2 gMod (rB gInt (rCons (r2 gFd (r2 gIx (rV 0) (rC (.int 3))) (rC (.int 11))) rNil)) (rV 1))))))
@[irreducible] def F__law_draw : FN := runF N__law_draw R__law_draw
theorem F__law_draw_def : F__law_draw = runF N__law_draw R__law_draw := by unfold F__law_draw; rfl
theorem u__law_draw {a0 a1 : PV} {h : PH} : F__law_draw [a0, a1] h = toF (R__law_draw [some (.val a0), some (.val a1), none, none] h) := by rw [F__law_draw_def]; rfl
/-! _law_same(actual, expected) -/
def N__law_same : List Str := ["actual", "expected", "k"]
def R__law_same (F_self : FN) : MS :=
  (mSeq (mIf (rOrT (rTru (rB gIsi (rCons (rV 1) (rCons (rC (.cst (.ty "tuple"))) rNil)))) (rTru (rB gIsi (rCons (rV 1) (rCons (rC (.cst (.ty "list"))) rNil))))) (mSeq (mIf (rOrT (rTb (r2 gNe (rB gIsi (rCons (rV 1) (rCons (rC (.cst (.ty "tuple"))) rNil))) (rB gIsi (rCons (rV 0) (rCons (rC (.cst (.ty "tuple"))) rNil))))) (rTb (r2 gNe (rB gIsi (rCons (rV 1) (rCons (rC (.cst (.ty "list"))) rNil))) (rB gIsi (rCons (rV 0) (rCons (rC (.cst (.ty "list"))) rNil)))))) (mRet (rC (.bl false))) mNx)
    (mSeq (mIf (rTb (r2 gNe (rB gLen (rCons (rV 0) rNil)) (rB gLen (rCons (rV 1) rNil)))) (mRet (rC (.bl false))) mNx)
    (mRet (r2 gEq (rB gLen (rCons (rLc (rRng1 (rCons (rB gLen (rCons (rV 1) rNil)) rNil)) (tN 2) (rNotT (rTru (rCall 2 F_self [] (rCons (r2 gIx (rV 0) (rV 2)) (rCons (r2 gIx (rV 1) (rV 2)) rNil))))) (rV 2) [2]) rNil)) (rC (.int 0)))))) mNx)
    (mSeq (mIf (rTru (rB gIsi (rCons (rV 1) (rCons (rC (.cst (.ty "str"))) rNil)))) (mRet (rAnd (rB gIsi (rCons (rV 0) (rCons (rC (.cst (.ty "str"))) rNil))) (r2 gEq (rV 0) (rV 1)))) mNx)
    (mSeq (mIf (rTb (r2 gIs (rV 1) (rC .non))) (mRet (r2 gIs (rV 0) (rC .non))) mNx)
    (mSeq (mIf (rOrT (rTru (rB gIsi (rCons (rV 1) (rCons (rC (.cst (.ty "bool"))) rNil)))) (rTru (rB gIsi (rCons (rV 0) (rCons (rC (.cst (.ty "bool"))) rNil))))) (mRet (rAnd (rB gIsi (rCons (rV 1) (rCons (rC (.cst (.ty "bool"))) rNil))) (rAnd (rB gIsi (rCons (rV 0) (rCons (rC (.cst (.ty "bool"))) rNil))) (r2 gEq (rV 0) (rV 1))))) mNx)
    (mRet (rAnd (rB gIsi (rCons (rV 0) (rCons (rC (.cst (.ty "int"))) rNil))) (rAnd (rB gIsi (rCons (rV 1) (rCons (rC (.cst (.ty "int"))) rNil))) (r2 gEq (rV 0) (rV 1)))))))))
def H__law_same : Nat → FN
  | 0 => fun _ _ => .stk
  | n + 1 => runF N__law_same (R__law_same (H__law_same n))
@[irreducible] def F__law_same (n : Nat) : FN := H__law_same n
theorem F__law_same_zero : F__law_same 0 = fun _ _ => .stk := by unfold F__law_same; rfl
theorem F__law_same_succ {n : Nat} : F__law_same (n + 1) = runF N__law_same (R__law_same (F__law_same n)) := by unfold F__law_same; rfl
theorem u__law_same {n : Nat} {a0 a1 : PV} {h : PH} : F__law_same (n + 1) [a0, a1] h = toF (R__law_same (F__law_same n) [some (.val a0), some (.val a1), none] h) := by rw [F__law_same_succ]; rfl
def N_is_count : List Str := ["value"]
def R_is_count : MS :=
  (mRet (rAnd (rCall 1 F_is_integer [] (rCons (rV 0) rNil)) (r2 gGe (rV 0) (rC (.int 0)))))
@[irreducible] def F_is_count : FN := runF N_is_count R_is_count
theorem F_is_count_def : F_is_count = runF N_is_count R_is_count := by unfold F_is_count; rfl
theorem u_is_count {a0 : PV} {h : PH} : F_is_count [a0] h = toF (R_is_count [some (.val a0)] h) := by rw [F_is_count_def]; rfl
end PP
set_option Elab.async false
set_option linter.all false
set_option maxRecDepth 100000
set_option maxHeartbeats 4000000
namespace PP
open PySem PySem.Spec PyProof.Rows L2
local macro_rules | `(tactic| dsimp! [$xs:simpLemma,*]) => `(tactic| simp only [q0, q1, q2, q3, q4, q5, q6, q7, q8, q9, q10, q11, q12, q13, q14, q15, q16, q17, q18, q19, q20, q21, q22, q23, q24, q25, q26, q27, q28, q29, q30, q31, q32, q33, q34, q35, q36, q37, q38, q39, q40, q41, q42, q43, q44, q45, q46, q47, q48, q49, q50, q51, q52, q53, q54, q55, q56, q57, q58, q59, q60, q61, q62, q63, q64, q65, q66, q67, q68, q69, q70, q71, q72, q73, q74, q75, q76, q77, q78, q79, q80, q81, q82, q83, q84, q85, q86, q87, q88, q89, q90, q91, q92, q93, q94, q95, q96, q97, q98, q99, q100, q101, q102, q103, q104, q105, q106, q107, q108, q109, q110, q111, q112, q113, q114, q115, q116, q117, q118, q119, q120, q121, q122, q123, q124, q125, q126, q127, q128, q129, q130, q131, q132, q133, q134, q135, q136, q137, q138, q139, q140, q141, q142, q143, q144, q145, q146, q147, q148, q149, q150, q151, q152, q153, q154, q155, q156, q157, q158, q159, q160, q161, q162, q163, q164, q165, q166, q167, q168, q169, q170, q171, q172, q173, q174, q175, q176, q177, q178, q179, q180, q181, q182, q183, q184, q185, q186, q187, q188, q189, q190, q191, q192, q193, q194, q195, q196, q197, q198, q199, q200, q201, q202, q203, q204, q205, q206, q207, q208, q209, q210, q211, q212, q213, q214, q215, q216, q217, q218, q219, q220, q221, q222, q223, q224, q225, q226, q227, q228, q229, q230, q231, q232, q233, q234, q235, q236, q237, q238, q239, q240, q241, q242, q243, q244, q245, q246, q247, q248, q249, q250, q251, q252, q253, q254, q255, q256, q257, q258, q259, q260, q261, q262, q263, q264, q265, q266, q267, q268, q269, q270, q271, q272, q273, q274, q275, q276, q277, q278, q279, q280, q281, q282, q283, q284, q285, q286, q287, q288, q289, q290, q291, q292, q293, q294, q295, q296, q297, q298, q299, q300, q301, q302, q303, q304, q305, q306, q307, q308, q309, q310, q311, q312, q313, q314, q315, q316, q317, q318, q319, q320, q321, q322, q323, q324, q325, q326, q327, q328, q329, q330, q331, q332, q333, q334, q335, q336, q337, q338, q339, q340, q341, q342, q343, q344, q345, q346, q347, q348, q349, q350, q351, q352, q353, q354, q355, q356, q357, q358, q359, q360, q361, q362, q363, q364, q365, q366, q367, q368, q369, q370, q371, q372, q373, q374, q375, q376, q377, q378, q379, q380, q381, q382, q383, q384, q385, q386, q387, q388, q389, q390, q391, q392, q393, q394, q395, q396, q397, q398, q399, q400, q401, q402, q403, q404, q405, q406, q407, q408, q409, q410, q411, q412, q413, q414, q415, q416, q417, q418, q419, q420, q421, q422, q423, q424, q425, q426, q427, q428, q429, q430, q431, qsI, qlI, qcI, quI, qeI, qtI, qfI, qm6, qm7, cmulR, cmulL, cdivL, fitL, castL, cpowL, q452, q453, atL, atN1, ixL, q457, q458, q459, q460, q461, q462, q463, q464, q465, q466, q467, q468, q469, q470, q471, q472, q473, q474, q475, q476, q477, q478, q479, q480, q481, q482, q483, q484, q485, q486, q487, q488, List.getElem?_cons_zero, List.getElem?_cons_succ, List.set_cons_zero, List.set_cons_succ, List.length_cons, List.length_nil, List.map_cons, List.map_nil, List.append_nil, List.nil_append, List.cons_append, Option.map_some, Option.map_none, Option.bind_some, Option.bind_none, decide_eq_true_eq, Bool.not_eq_true, Bool.not_not, Bool.not_true, Bool.not_false, Bool.and_eq_true, Bool.or_eq_true, Bool.not_eq_true', decide_eq_false_iff_not, Bool.false_eq_true, if_true, if_false, ite_true, ite_false, ite_self, reduceIte, sizeLine_eq, decide_true, decide_false, Bool.true_and, Bool.and_true, Bool.false_and, Bool.and_false, Bool.true_or, Bool.or_true, Bool.false_or, Bool.or_false, true_and, and_true, false_and, and_false, true_or, or_true, false_or, or_false, not_true_eq_false, not_false_eq_true, Bool.if_true_left, Bool.if_true_right, Bool.if_false_left, Bool.if_false_right, Bool.decide_eq_true, Bool.decide_eq_false, bne_iff_ne, ne_eq, Bool.decide_and, Bool.decide_or, Nat.zero_add, wipe_nil, wipe_cons, back_nil, back_cons, backS_v, backS_o, backS_n, Int.toNat_natCast, Nat.reduceAdd, Nat.reduceSub, Nat.reduceMul, Nat.reduceLT, Nat.reduceLeDiff, Nat.reduceEqDiff, Nat.reducePow, Int.reduceAdd, Int.reduceSub, Int.reduceMul, Int.reduceNeg, Int.reduceDiv, Int.reduceMod, Int.reducePow, Int.reduceLT, Int.reduceLE, Int.reduceGT, Int.reduceGE, Int.reduceEq, Int.reduceNe, Int.reduceToNat, List.all_cons, List.all_nil, List.zip_cons_cons, List.zip_nil_left, Bool.and_eq_false_iff, Bool.or_eq_false_iff, Bool.not_eq_false, Int.ofNat_zero, Int.ofNat_one, Nat.reduceDiv, Nat.reduceMod, $xs:simpLemma,*])
local macro_rules | `(tactic| dsimp! [$xs:simpLemma,*] at $h:ident) => `(tactic| simp only [q0, q1, q2, q3, q4, q5, q6, q7, q8, q9, q10, q11, q12, q13, q14, q15, q16, q17, q18, q19, q20, q21, q22, q23, q24, q25, q26, q27, q28, q29, q30, q31, q32, q33, q34, q35, q36, q37, q38, q39, q40, q41, q42, q43, q44, q45, q46, q47, q48, q49, q50, q51, q52, q53, q54, q55, q56, q57, q58, q59, q60, q61, q62, q63, q64, q65, q66, q67, q68, q69, q70, q71, q72, q73, q74, q75, q76, q77, q78, q79, q80, q81, q82, q83, q84, q85, q86, q87, q88, q89, q90, q91, q92, q93, q94, q95, q96, q97, q98, q99, q100, q101, q102, q103, q104, q105, q106, q107, q108, q109, q110, q111, q112, q113, q114, q115, q116, q117, q118, q119, q120, q121, q122, q123, q124, q125, q126, q127, q128, q129, q130, q131, q132, q133, q134, q135, q136, q137, q138, q139, q140, q141, q142, q143, q144, q145, q146, q147, q148, q149, q150, q151, q152, q153, q154, q155, q156, q157, q158, q159, q160, q161, q162, q163, q164, q165, q166, q167, q168, q169, q170, q171, q172, q173, q174, q175, q176, q177, q178, q179, q180, q181, q182, q183, q184, q185, q186, q187, q188, q189, q190, q191, q192, q193, q194, q195, q196, q197, q198, q199, q200, q201, q202, q203, q204, q205, q206, q207, q208, q209, q210, q211, q212, q213, q214, q215, q216, q217, q218, q219, q220, q221, q222, q223, q224, q225, q226, q227, q228, q229, q230, q231, q232, q233, q234, q235, q236, q237, q238, q239, q240, q241, q242, q243, q244, q245, q246, q247, q248, q249, q250, q251, q252, q253, q254, q255, q256, q257, q258, q259, q260, q261, q262, q263, q264, q265, q266, q267, q268, q269, q270, q271, q272, q273, q274, q275, q276, q277, q278, q279, q280, q281, q282, q283, q284, q285, q286, q287, q288, q289, q290, q291, q292, q293, q294, q295, q296, q297, q298, q299, q300, q301, q302, q303, q304, q305, q306, q307, q308, q309, q310, q311, q312, q313, q314, q315, q316, q317, q318, q319, q320, q321, q322, q323, q324, q325, q326, q327, q328, q329, q330, q331, q332, q333, q334, q335, q336, q337, q338, q339, q340, q341, q342, q343, q344, q345, q346, q347, q348, q349, q350, q351, q352, q353, q354, q355, q356, q357, q358, q359, q360, q361, q362, q363, q364, q365, q366, q367, q368, q369, q370, q371, q372, q373, q374, q375, q376, q377, q378, q379, q380, q381, q382, q383, q384, q385, q386, q387, q388, q389, q390, q391, q392, q393, q394, q395, q396, q397, q398, q399, q400, q401, q402, q403, q404, q405, q406, q407, q408, q409, q410, q411, q412, q413, q414, q415, q416, q417, q418, q419, q420, q421, q422, q423, q424, q425, q426, q427, q428, q429, q430, q431, qsI, qlI, qcI, quI, qeI, qtI, qfI, qm6, qm7, cmulR, cmulL, cdivL, fitL, castL, cpowL, q452, q453, atL, atN1, ixL, q457, q458, q459, q460, q461, q462, q463, q464, q465, q466, q467, q468, q469, q470, q471, q472, q473, q474, q475, q476, q477, q478, q479, q480, q481, q482, q483, q484, q485, q486, q487, q488, List.getElem?_cons_zero, List.getElem?_cons_succ, List.set_cons_zero, List.set_cons_succ, List.length_cons, List.length_nil, List.map_cons, List.map_nil, List.append_nil, List.nil_append, List.cons_append, Option.map_some, Option.map_none, Option.bind_some, Option.bind_none, decide_eq_true_eq, Bool.not_eq_true, Bool.not_not, Bool.not_true, Bool.not_false, Bool.and_eq_true, Bool.or_eq_true, Bool.not_eq_true', decide_eq_false_iff_not, Bool.false_eq_true, if_true, if_false, ite_true, ite_false, ite_self, reduceIte, sizeLine_eq, decide_true, decide_false, Bool.true_and, Bool.and_true, Bool.false_and, Bool.and_false, Bool.true_or, Bool.or_true, Bool.false_or, Bool.or_false, true_and, and_true, false_and, and_false, true_or, or_true, false_or, or_false, not_true_eq_false, not_false_eq_true, Bool.if_true_left, Bool.if_true_right, Bool.if_false_left, Bool.if_false_right, Bool.decide_eq_true, Bool.decide_eq_false, bne_iff_ne, ne_eq, Bool.decide_and, Bool.decide_or, Nat.zero_add, wipe_nil, wipe_cons, back_nil, back_cons, backS_v, backS_o, backS_n, Int.toNat_natCast, Nat.reduceAdd, Nat.reduceSub, Nat.reduceMul, Nat.reduceLT, Nat.reduceLeDiff, Nat.reduceEqDiff, Nat.reducePow, Int.reduceAdd, Int.reduceSub, Int.reduceMul, Int.reduceNeg, Int.reduceDiv, Int.reduceMod, Int.reducePow, Int.reduceLT, Int.reduceLE, Int.reduceGT, Int.reduceGE, Int.reduceEq, Int.reduceNe, Int.reduceToNat, List.all_cons, List.all_nil, List.zip_cons_cons, List.zip_nil_left, Bool.and_eq_false_iff, Bool.or_eq_false_iff, Bool.not_eq_false, Int.ofNat_zero, Int.ofNat_one, Nat.reduceDiv, Nat.reduceMod, $xs:simpLemma,*] at $h:ident)
/-! ### the defs that all laws share -/
theorem f_isint_int {i : Int} {h : PH} : F_is_integer [.int i] h = .ok (.val (.bl true)) h := by
  rw [u_is_integer]; unfold R_is_integer; dsimp! [q0]
theorem f_isint_str {i : Str} {h : PH} : F_is_integer [.str i] h = .ok (.val (.bl false)) h := by
  rw [u_is_integer]; unfold R_is_integer; dsimp! [q0]
theorem f_isint_bl {i : Bool} {h : PH} : F_is_integer [.bl i] h = .ok (.val (.bl false)) h := by
  rw [u_is_integer]; unfold R_is_integer; dsimp! [q0]
theorem f_isint_non {h : PH} : F_is_integer [.non] h = .ok (.val (.bl false)) h := by
  rw [u_is_integer]; unfold R_is_integer; dsimp! [q0]
theorem f_isint_tup {i : List PV} {h : PH} : F_is_integer [.tup i] h = .ok (.val (.bl false)) h := by
  rw [u_is_integer]; unfold R_is_integer; dsimp! [q0]
theorem f_isint_lst {i : List PV} {h : PH} : F_is_integer [.lst i] h = .ok (.val (.bl false)) h := by
  rw [u_is_integer]; unfold R_is_integer; dsimp! [q0]
theorem f_count_int {i : Int} {h : PH} : F_is_count [.int i] h = .ok (.val (.bl (decide (0 ≤ i)))) h := by
  rw [u_is_count]; unfold R_is_count; dsimp! [f_isint_int]
theorem f_count_str {i : Str} {h : PH} : F_is_count [.str i] h = .ok (.val (.bl false)) h := by
  rw [u_is_count]; unfold R_is_count; dsimp! [f_isint_str]
theorem f_count_bl {i : Bool} {h : PH} : F_is_count [.bl i] h = .ok (.val (.bl false)) h := by
  rw [u_is_count]; unfold R_is_count; dsimp! [f_isint_bl]
theorem f_count_non {h : PH} : F_is_count [.non] h = .ok (.val (.bl false)) h := by
  rw [u_is_count]; unfold R_is_count; dsimp! [f_isint_non]
theorem f_count_tup {i : List PV} {h : PH} : F_is_count [.tup i] h = .ok (.val (.bl false)) h := by
  rw [u_is_count]; unfold R_is_count; dsimp! [f_isint_tup]
theorem f_count_lst {i : List PV} {h : PH} : F_is_count [.lst i] h = .ok (.val (.bl false)) h := by
  rw [u_is_count]; unfold R_is_count; dsimp! [f_isint_lst]
theorem f_draws {xs : List PV} {h : PH} : F__law_draws [.rdl xs] h = .ok (.own (.lst [.lst xs, .int 0, .int 0, .int 1])) h := by
  rw [u__law_draws]; unfold R__law_draws; dsimp! [q0]
/-! draws -/
def drO (ns : List Int) (i acc st : Int) : PO := .lst [.lst (ns.map .int), .int i, .int acc, .int st]
def DrH (h : PH) (a : Addr) : Prop := ∃ ns i acc st, h a = some (drO ns i acc st) ∧ 0 ≤ i ∧ 0 ≤ acc ∧ 0 ≤ st ∧ st < 2147483647
theorem upd_at {h : PH} {a : Addr} {o : PO} : updP h a o a = some o := updP_same
theorem upd_upd {h : PH} {a : Addr} {o u : PO} : updP (updP h a o) a u = updP h a u := updP_updP
theorem dr0 {h : PH} {a : Addr} {ns : List Int} : DrH (updP h a (.lst [.lst (ns.map .int), .int 0, .int 0, .int 1])) a := ⟨ns, 0, 0, 1, updP_same, by omega, by omega, by omega, by omega⟩
theorem f_draw {h : PH} {a : Addr} {n : Int} (d : DrH h a) (n0 : 0 < n) (n1 : n < 18446744073709551616) :
    ∃ v o, F__law_draw [.ref a, .int n] h = .ok (.val (.int v)) (updP h a o) ∧ DrH (updP h a o) a ∧ 0 ≤ v ∧ v < n := by
  obtain ⟨ns, i, acc, st, e, hi, ha, hs, hs1⟩ := d
  have hn : ∀ k, CDivW k n := fun k => wide_div (b := 64) n0 (by omega) (by decide) (by decide)
  have md : ∀ k : Int, 0 ≤ k % n ∧ k % n < n := fun k => ⟨Int.emod_nonneg _ (by omega), Int.emod_lt_of_pos _ n0⟩
  have m1 : ∀ k : Int, 0 ≤ k % 2147483647 ∧ k % 2147483647 < 2147483647 := fun k => by omega
  have m2 : ∀ k : Int, 0 ≤ k % 2147483629 ∧ k % 2147483629 < 2147483647 := fun k => by omega
  rw [u__law_draw]; unfold R__law_draw
  unfold drO at e
  by_cases c : acc = 0 ∧ i < ns.length
  · obtain ⟨c1, c2⟩ := c
    subst c1
    have hx : atI (ns.map PV.int) i = some (.int (ns.getD i.toNat 0)) := by
      have : i.toNat < ns.length := by omega
      have z := atI_nat (xs := ns.map PV.int) (j := i.toNat) (v := .int (ns.getD i.toNat 0)) (by simp [List.getElem?_map, List.getD, List.getElem?_eq_getElem this])
      rw [Int.toNat_of_nonneg hi] at z
      exact z
    generalize ns.getD i.toNat 0 = cell at hx
    by_cases c3 : (1000000000000000000 : Int) ≤ cell
    · have c4 : 0 < cell := by omega
      dsimp! [e, c2, c3, c4, n0, hn, upd_at, upd_upd, List.length_map, hx]
      exact ⟨_, _, rfl, ⟨ns, _, _, _, updP_same, by omega, Int.ediv_nonneg (by omega) (by omega), (m1 _).1, (m1 _).2⟩, md _⟩
    · dsimp! [e, c2, c3, n0, hn, upd_at, upd_upd, List.length_map, hx]
      exact ⟨_, _, rfl, ⟨ns, _, _, _, updP_same, by omega, by omega, (m2 _).1, (m2 _).2⟩, md _⟩
  · by_cases c1 : 0 < acc
    · have c2 : ¬ acc = 0 := by omega
      dsimp! [e, c1, c2, n0, hn, upd_at, upd_upd]
      exact ⟨_, _, rfl, ⟨ns, _, _, _, updP_same, hi, Int.ediv_nonneg ha (by omega), hs, hs1⟩, md _⟩
    · have c2 : acc = 0 := by omega
      subst c2
      have c3 : ¬ i < ns.length := fun z => c ⟨rfl, z⟩
      dsimp! [e, c3, List.length_map, n0, hn, upd_at, upd_upd]
      exact ⟨_, _, rfl, ⟨ns, _, _, _, updP_same, hi, ha, (m2 _).1, (m2 _).2⟩, md _⟩
/-! _law_same -/
mutual
def sameB : PV → PV → Bool
  | .tup xs, .tup ys => sameL xs ys
  | .lst xs, .lst ys => sameL xs ys
  | .str a, .str b => decide (a = b)
  | .non, .non => true
  | .bl a, .bl b => decide (a = b)
  | .int a, .int b => decide (a = b)
  | _, _ => false
def sameL : List PV → List PV → Bool
  | [], [] => true
  | x :: xs, y :: ys => sameB x y && sameL xs ys
  | _, _ => false
end
/-- plain data, not deeper than n -/
def dataP : Nat → PV → Prop
  | 0, _ => False
  | _ + 1, .non => True
  | _ + 1, .bl _ => True
  | _ + 1, .int _ => True
  | _ + 1, .str _ => True
  | n + 1, .tup xs => xs.length < 1048576 ∧ ∀ x ∈ xs, dataP n x
  | n + 1, .lst xs => xs.length < 1048576 ∧ ∀ x ∈ xs, dataP n x
  | _, _ => False
theorem dataP_mono : ∀ {n m : Nat} {x : PV}, n ≤ m → dataP n x → dataP m x
  | 0, _, _, _, d => d.elim
  | n + 1, 0, _, h, _ => by omega
  | n + 1, m + 1, x, h, d => by
    cases x with
    | tup xs => exact ⟨d.1, fun y hy => dataP_mono (by omega) (d.2 y hy)⟩
    | lst xs => exact ⟨d.1, fun y hy => dataP_mono (by omega) (d.2 y hy)⟩
    | non => trivial
    | bl b => trivial
    | int i => trivial
    | str t => trivial
    | _ => exact d.elim
theorem dataP_vw {n : Nat} {x : PV} {h : PH} (d : dataP n x) : vwp h x = x := by
  cases n with
  | zero => exact d.elim
  | succ n => cases x <;> first | rfl | exact d.elim
mutual
theorem sameB_refl : ∀ {n : Nat} {x : PV}, dataP n x → sameB x x = true
  | 0, _, d => d.elim
  | n + 1, .non, _ => rfl
  | n + 1, .bl _, _ => by simp [sameB]
  | n + 1, .int _, _ => by simp [sameB]
  | n + 1, .str _, _ => by simp [sameB]
  | n + 1, .tup xs, d => by
    unfold sameB
    exact sameL_refl d.2
  | n + 1, .lst xs, d => by
    unfold sameB
    exact sameL_refl d.2
  | n + 1, .rdl _, d => d.elim
  | n + 1, .dK _, d => d.elim
  | n + 1, .ref _, d => d.elim
  | n + 1, .cst _, d => d.elim
  | n + 1, .bad, d => d.elim
theorem sameL_refl : ∀ {n : Nat} {xs : List PV}, (∀ x ∈ xs, dataP n x) → sameL xs xs = true
  | _, [], _ => by unfold sameL; rfl
  | n, x :: xs, d => by
    unfold sameL
    rw [sameB_refl (d x List.mem_cons_self), sameL_refl fun y hy => d y (List.mem_cons_of_mem _ hy)]
    rfl
end
/-- by places -/
theorem sameL_at : ∀ {xs ys : List PV}, xs.length = ys.length → (sameL xs ys = true ↔ ∀ i : Nat, ∀ x y, xs[i]? = some x → ys[i]? = some y → sameB x y = true)
  | [], [], _ => by simp [sameL]
  | x :: xs, y :: ys, h => by
    have ih := sameL_at (xs := xs) (ys := ys) (by simpa using h)
    unfold sameL
    rw [Bool.and_eq_true, ih]
    constructor
    · rintro ⟨a, b⟩ i u v eu ev
      cases i with
      | zero => simp at eu ev; rw [← eu, ← ev]; exact a
      | succ i => exact b i u v (by simpa using eu) (by simpa using ev)
    · intro q
      exact ⟨q 0 x y rfl rfl, fun i u v eu ev => q (i + 1) u v (by simpa using eu) (by simpa using ev)⟩
theorem sameL_len : ∀ {xs ys : List PV}, xs.length ≠ ys.length → sameL xs ys = false
  | [], [], h => absurd rfl h
  | [], _ :: _, _ => by unfold sameL; rfl
  | _ :: _, [], _ => by unfold sameL; rfl
  | x :: xs, y :: ys, h => by
    have ih := sameL_len (xs := xs) (ys := ys) (by simpa using h)
    unfold sameL; rw [ih]; simp
/-- the places where they differ -/
def difP (xs ys : List PV) : PV → Option PV
  | .int i => match xs[i.toNat]?, ys[i.toNat]? with
    | some x, some y => if sameB x y then none else some (.int i)
    | _, _ => none
  | _ => none
theorem dif_len {xs ys : List PV} (h : xs.length = ys.length) : decide ((((rangeP 0 ys.length).filterMap (difP xs ys)).length : Int) = 0) = sameL xs ys := by
  rw [Bool.eq_iff_iff, decide_eq_true_eq, sameL_at h]
  constructor
  · intro e i x y ex ey
    have e : (rangeP 0 ys.length).filterMap (difP xs ys) = [] := List.eq_nil_of_length_eq_zero (by omega)
    rw [List.filterMap_eq_nil_iff] at e
    have lt : i < ys.length := (List.getElem?_eq_some_iff.mp ey).1
    have z := e (.int (i : Nat)) (by simp [rangeP]; exact ⟨i, lt, rfl⟩)
    simp only [difP, Int.toNat_natCast, ex, ey] at z
    by_cases c : sameB x y = true
    · exact c
    · rw [if_neg c] at z; cases z
  · intro q
    have e : (rangeP 0 ys.length).filterMap (difP xs ys) = [] := by
      rw [List.filterMap_eq_nil_iff]
      intro p hp
      simp [rangeP] at hp
      obtain ⟨i, lt, rfl⟩ := hp
      have lx : i < xs.length := by omega
      have z := q i _ _ (List.getElem?_eq_getElem lx) (List.getElem?_eq_getElem lt)
      simp only [difP, Int.toNat_natCast, List.getElem?_eq_getElem lx, List.getElem?_eq_getElem lt, z, if_true]
    rw [e]; rfl
/-! comprehensions whose items leave the heap as it is -/
theorem lc_fm {G : MG} {C : MT} {A : ME} {vs : List Nat} {h : PH} {σ : PSt} (f : PV → Option PV) : ∀ (xs acc : List PV), (∀ x ∈ xs, ∃ σ', lcE G C A x σ h = .ok (f x) σ' h ∧ wipeP σ' vs = σ) → acc.length + xs.length ≤ sizeLine →
    lcI G C A vs xs acc σ h = .ok (acc ++ xs.filterMap f) σ h
  | [], acc, _, _ => by rw [lcR_nil]; simp
  | x :: xs, acc, z, l => by
    obtain ⟨σ', e, w⟩ := z x List.mem_cons_self
    rw [lcR_cons, e]
    show lcK G C A vs xs acc (f x) σ' h = _
    have l' : acc.length + (xs.length + 1) ≤ sizeLine := l
    cases hf : f x with
    | none => rw [lcK_none, w, lc_fm f xs acc (fun y hy => z y (List.mem_cons_of_mem _ hy)) (by omega)]; simp [hf]
    | some p => rw [lcK_some, if_pos (by omega), w, lc_fm f xs (acc ++ [p]) (fun y hy => z y (List.mem_cons_of_mem _ hy)) (by simp; omega)]; simp [hf]
theorem lc_map {G : MG} {C : MT} {A : ME} {vs : List Nat} {h : PH} {σ : PSt} (f : PV → PV) (xs : List PV) (z : ∀ x ∈ xs, ∃ σ', lcE G C A x σ h = .ok (some (f x)) σ' h ∧ wipeP σ' vs = σ) (l : xs.length ≤ sizeLine) :
    lcI G C A vs xs [] σ h = .ok (xs.map f) σ h := by
  rw [lc_fm (fun x => some (f x)) xs [] z (by simpa using l)]; simp
theorem f_same_seq (n : Nat) (T : List PV → PV) (hT : T = .tup ∨ T = .lst) (ih : ∀ {x y : PV} {h : PH}, dataP n x → dataP n y → F__law_same n [x, y] h = .ok (.val (.bl (sameB x y))) h) {xs ys : List PV} {h : PH} (l1 : xs.length < 1048576) (l2 : ys.length < 1048576)
    (d1 : ∀ x ∈ xs, dataP n x) (d2 : ∀ x ∈ ys, dataP n x) : F__law_same (n + 1) [T xs, T ys] h = .ok (.val (.bl (sameL xs ys))) h := by
  rw [u__law_same]; unfold R__law_same
  by_cases c : xs.length = ys.length
  · have c' : ((xs.length : Nat) : Int) = (ys.length : Nat) := by omega
    have ft : Fit ((ys.length : Nat) : Int) := by unfold Fit; omega
    have lc : lcI (tN 2) (rNotT (rTru (rCall 2 (F__law_same n) [] (rCons (r2 gIx (rV 0) (rV 2)) (rCons (r2 gIx (rV 1) (rV 2)) rNil))))) (rV 2) [2] (rangeP 0 ys.length) [] [some (.val (T xs)), some (.val (T ys)), none] h = .ok ((rangeP 0 ys.length).filterMap (difP xs ys)) [some (.val (T xs)), some (.val (T ys)), none] h := by
      rw [lc_fm (difP xs ys) _ [] (fun p hp => ?_) (by have := sizeLine_eq; simp [rangeP]; omega)]; rfl
      simp [rangeP] at hp
      obtain ⟨i, lt, rfl⟩ := hp
      have lx : i < xs.length := by omega
      have ax : atI xs (i : Int) = some xs[i] := atI_nat (List.getElem?_eq_getElem lx)
      have ay : atI ys (i : Int) = some ys[i] := atI_nat (List.getElem?_eq_getElem lt)
      have hd : difP xs ys (.int (i : Nat)) = if sameB xs[i] ys[i] then none else some (.int (i : Nat)) := by
        simp only [difP, Int.toNat_natCast, List.getElem?_eq_getElem lx, List.getElem?_eq_getElem lt]
      refine ⟨[some (.val (T xs)), some (.val (T ys)), some (.val (.int i))], ?_, rfl⟩
      rw [hd]
      have sp := ih (h := h) (d1 _ (List.getElem_mem lx)) (d2 _ (List.getElem_mem lt))
      rcases hT with rfl | rfl <;> (cases hb : sameB xs[i] ys[i] <;> (rw [hb] at sp; dsimp! [ax, ay, sp]))
    rcases hT with rfl | rfl <;> (dsimp! [c', ft, lc]; rw [dif_len c])
  · have c' : ¬ ((xs.length : Nat) : Int) = (ys.length : Nat) := by omega
    rw [sameL_len c]
    rcases hT with rfl | rfl <;> dsimp! [c']
theorem f_same : ∀ (n : Nat) {x y : PV} {h : PH}, dataP n x → dataP n y → F__law_same n [x, y] h = .ok (.val (.bl (sameB x y))) h
  | 0, _, _, _, d, _ => d.elim
  | n + 1, x, y, h, dx, dy => by
    cases y with
    | tup ys => cases x with
      | tup xs => exact f_same_seq n .tup (.inl rfl) (f_same n) dx.1 dy.1 dx.2 dy.2
      | rdl _ => exact dx.elim
      | dK _ => exact dx.elim
      | ref _ => exact dx.elim
      | cst _ => exact dx.elim
      | bad => exact dx.elim
      | _ => rw [u__law_same]; unfold R__law_same; dsimp! [sameB]
    | lst ys => cases x with
      | lst xs => exact f_same_seq n .lst (.inr rfl) (f_same n) dx.1 dy.1 dx.2 dy.2
      | rdl _ => exact dx.elim
      | dK _ => exact dx.elim
      | ref _ => exact dx.elim
      | cst _ => exact dx.elim
      | bad => exact dx.elim
      | _ => rw [u__law_same]; unfold R__law_same; dsimp! [sameB]
    | rdl _ => exact dy.elim
    | dK _ => exact dy.elim
    | ref _ => exact dy.elim
    | cst _ => exact dy.elim
    | bad => exact dy.elim
    | _ => cases x with
      | rdl _ => exact dx.elim
      | dK _ => exact dx.elim
      | ref _ => exact dx.elim
      | cst _ => exact dx.elim
      | bad => exact dx.elim
      | _ => rw [u__law_same]; unfold R__law_same; dsimp! [sameB]
end PP
set_option Elab.async false
set_option linter.all false
set_option maxRecDepth 100000
set_option maxHeartbeats 4000000
namespace PP
open PySem PySem.Spec PyProof.Rows L2
/-! ### loops -/
def fKk (B k : MS) : Unit → PSt → PH → Ss := fun _ σ h => (B σ h).loop k
theorem fKk_eq {B k : MS} {u : Unit} {σ : PSt} {h : PH} : fKk B k u σ h = (B σ h).loop k := (rfl)
theorem for_ind {G : MG} {B : MS} (I : List PV → PSt → PH → Prop) (R : Ss → Prop) (done : ∀ σ h, I [] σ h → R (.nx σ h)) (step : ∀ x xs σ h k, I (x :: xs) σ h → (∀ σ' h', I xs σ' h' → R (k σ' h')) → R (bindS (G x σ h).noex (fKk B k))) :
    ∀ xs σ h, I xs σ h → R (forI G B xs σ h)
  | [], σ, h, i => by rw [forR_nil]; exact done _ _ i
  | x :: xs, σ, h, i => by rw [forR_cons]; exact step x xs σ h (forI G B xs) i fun σ' h' i' => for_ind I R done step xs σ' h' i'
def wKk (B k : MS) : Bool → PSt → PH → Ss := fun b σ h => if b = true then (B σ h).loop k else .nx σ h
theorem wKk_eq {B k : MS} {b : Bool} {σ : PSt} {h : PH} : wKk B k b σ h = if b = true then (B σ h).loop k else .nx σ h := (rfl)
theorem wh_ind' {C : MT} {B : MS} (I : Nat → PSt → PH → Prop) (R : Ss → Prop) (step : ∀ m σ h k, I m σ h → (∀ m' σ' h', m' < m → I m' σ' h' → R (k σ' h')) → R (bindS (C σ h) (wKk B k))) :
    ∀ n m σ h, m < n → I m σ h → R (whR C B n σ h)
  | 0, _, _, _, l, _ => absurd l (Nat.not_lt_zero _)
  | n + 1, m, σ, h, l, i => step m σ h (whR C B n) i fun m' σ' h' l' i' => wh_ind' I R step n m' σ' h' (by omega) i'
theorem wh_ind {C : MT} {B : MS} (I : Nat → PSt → PH → Prop) (R : Ss → Prop) {m : Nat} {σ : PSt} {h : PH} (i : I m σ h) (l : m < 1000000000000) (step : ∀ m σ h k, I m σ h → (∀ m' σ' h', m' < m → I m' σ' h' → R (k σ' h')) → R (bindS (C σ h) (wKk B k))) : R (mWh C B σ h) := by
  unfold mWh
  exact wh_ind' I R step FUEL m σ h l i
def cKk (vs : List Nat) (acc : List PV) (k : List PV → PSt → PH → Rs (List PV)) : Option PV → PSt → PH → Rs (List PV)
  | some p, σ, h => if acc.length < sizeLine then k (acc ++ [p]) (wipeP σ vs) h else .stk
  | none, σ, h => k acc (wipeP σ vs) h
theorem cKk_some {vs : List Nat} {acc : List PV} {k : List PV → PSt → PH → Rs (List PV)} {p : PV} {σ : PSt} {h : PH} : cKk vs acc k (some p) σ h = if acc.length < sizeLine then k (acc ++ [p]) (wipeP σ vs) h else .stk := (rfl)
theorem cKk_none {vs : List Nat} {acc : List PV} {k : List PV → PSt → PH → Rs (List PV)} {σ : PSt} {h : PH} : cKk vs acc k none σ h = k acc (wipeP σ vs) h := (rfl)
theorem lc_ind {G : MG} {C : MT} {A : ME} {vs : List Nat} (I : List PV → List PV → PSt → PH → Prop) (R : Rs (List PV) → Prop) (done : ∀ acc σ h, I [] acc σ h → R (.ok acc σ h)) (step : ∀ x xs acc σ h k, I (x :: xs) acc σ h → (∀ acc' σ' h', I xs acc' σ' h' → R (k acc' σ' h')) → R ((lcE G C A x σ h).noex.bind (cKk vs acc k))) :
    ∀ xs acc σ h, I xs acc σ h → R (lcI G C A vs xs acc σ h)
  | [], acc, σ, h, i => by rw [lcR_nil]; exact done _ _ _ i
  | x :: xs, acc, σ, h, i => by
    rw [lcR_cons]
    have := step x xs acc σ h (lcI G C A vs xs) i fun acc' σ' h' i' => lc_ind I R done step xs acc' σ' h' i'
    have e : lcK G C A vs xs acc = cKk vs acc (lcI G C A vs xs) := by funext o σ h; cases o <;> rfl
    rw [e]; exact this
/-- draws in a row: each below the limit -/
def Ints (n : Int) (k : Nat) (p : List PV) : Prop := ∃ vs : List Int, p = vs.map .int ∧ vs.length = k ∧ ∀ v ∈ vs, 0 ≤ v ∧ v < n
theorem range_len {lo : Int} {n : Nat} : (rangeP lo n).length = n := by simp [rangeP]
/-! ### _law_same of two equal things -/
def dataL (n : Nat) : List PV → Prop
  | [] => True
  | x :: xs => dataP n x ∧ dataL n xs
theorem dataL_iff {n : Nat} : ∀ {xs : List PV}, dataL n xs ↔ ∀ x ∈ xs, dataP n x
  | [] => by simp [dataL]
  | x :: xs => by simp [dataL, dataL_iff (xs := xs)]
theorem dp_non {n : Nat} : dataP (n + 1) .non = True := (rfl)
theorem dp_int {n : Nat} {i : Int} : dataP (n + 1) (.int i) = True := (rfl)
theorem dp_bl {n : Nat} {i : Bool} : dataP (n + 1) (.bl i) = True := (rfl)
theorem dp_str {n : Nat} {i : Str} : dataP (n + 1) (.str i) = True := (rfl)
theorem dp_tup {n : Nat} {xs : List PV} : dataP (n + 1) (.tup xs) = (xs.length < 1048576 ∧ dataL n xs) := by rw [dataL_iff]; rfl
theorem dp_lst {n : Nat} {xs : List PV} : dataP (n + 1) (.lst xs) = (xs.length < 1048576 ∧ dataL n xs) := by rw [dataL_iff]; rfl
theorem dl_nil {n : Nat} : dataL n [] = True := (rfl)
theorem dl_cons {n : Nat} {x : PV} {xs : List PV} : dataL n (x :: xs) = (dataP n x ∧ dataL n xs) := (rfl)
theorem lsame_eq {x y : PV} {h : PH} (e : x = y) (d : dataP 40 x) : F__law_same 40 [x, y] h = .ok (.val (.bl true)) h := by
  subst e; rw [f_same 40 d d, sameB_refl d]
theorem lsame_refl {x : PV} {h : PH} (d : dataP 40 x) : F__law_same 40 [x, x] h = .ok (.val (.bl true)) h := lsame_eq rfl d
theorem at_ex {α : Type} {xs : List α} {i : Int} (h0 : 0 ≤ i) (h1 : i < xs.length) : ∃ x, atI xs i = some x ∧ x ∈ xs := by
  obtain ⟨j, rfl⟩ : ∃ j : Nat, i = j := ⟨i.toNat, by omega⟩
  have lt : j < xs.length := by omega
  exact ⟨xs[j], atI_nat (List.getElem?_eq_getElem lt), List.getElem_mem lt⟩
/-! ### the law itself -/
/-- it ends and gives True -/
@[irreducible] def OK (s : Ss) : Prop := wpF (toF s) (fun e _ => e = .val (.bl true)) fun _ _ => False
theorem ok_def {s : Ss} : OK s ↔ wpF (toF s) (fun e _ => e = .val (.bl true)) fun _ _ => False := by unfold OK; exact Iff.rfl
theorem ok_lay {i : Nat} {A : ME} {B : MS} {σ σ' : PSt} {h : PH} {o : PO} (e : A σ h = .ok (.own o) σ' h) (hi : i < σ'.length) (z : ∀ p, h p = none → OK (B (σ'.set i (some (.val (.ref p)))) (updP h p o))) : OK (mSeq (mLay i (mSet i A)) B σ h) := by
  have e1 : mSeq (mLay i (mSet i A)) B σ h = .new h fun p => B ((σ'.set i (some (.own o))).set i (some (.val (.ref p)))) (updP h p o) := by
    show ((bindS (A σ h) (setK i)).seq _).seq B = _
    rw [e]
    show (layK i (σ'.set i (some (.own o)))[i]? (σ'.set i (some (.own o))) h).seq B = _
    rw [List.getElem?_set_self hi]
    rfl
  rw [e1]
  rw [ok_def]
  intro p n
  have := z p n
  rw [ok_def] at this
  show wpF (toF (B ((σ'.set i (some (.own o))).set i (some (.val (.ref p)))) (updP h p o))) _ _
  rw [List.set_set]
  exact this
theorem ok_true {σ : PSt} {h : PH} : OK (.rt (.val (.bl true)) σ h) := by rw [ok_def]; rfl
theorem ok_seq {A B : MS} {σ : PSt} {h : PH} : OK (mSeq A B σ h) ↔ OK ((A σ h).seq B) := Iff.rfl
/-- the law's promise -/
def sp_law : PSp := fun ps h Q E => ∃ ns : List Int, ps = [.rdl (ns.map .int)] ∧ ns.length ≤ 63 ∧ (∀ a, h a = none) ∧ ∀ h', Q (.val (.bl true)) h'
theorem m_law : MonoF sp_law := fun ps h Q Q' E E' i j ⟨ns, a, b, c, q⟩ => ⟨ns, a, b, c, fun h' => i _ _ (q h')⟩
theorem law_of {F : FN} (z : ∀ (ns : List Int) (h : PH), ns.length ≤ 63 → wpF (F [.rdl (ns.map .int)] h) (fun e _ => e = .val (.bl true)) fun _ _ => False) : ∀ qs h Q E, sp_law qs h Q E → upF F qs h Q E := by
  rintro qs h Q E ⟨ns, rfl, l, _, q⟩
  exact wpF_mono (fun e h' x => by rw [x]; exact q h') (fun _ _ x => x.elim) (z ns h l)
end PP
set_option Elab.async false
set_option linter.all false
set_option maxRecDepth 100000
set_option maxHeartbeats 4000000
namespace PP
open PySem PySem.Spec PyProof.Rows L2
/-! ### loops in their places: s: what follows, l: the loop around -/
theorem ok_for_ {G : MG} {B : MS} {xs : List PV} {σ : PSt} {h : PH} (I : List PV → PSt → PH → Prop) (i : I xs σ h) (done : ∀ σ h, I [] σ h → OK (Ss.nx σ h)) (step : ∀ x xs σ h k, I (x :: xs) σ h → (∀ σ' h', I xs σ' h' → OK (k σ' h')) → OK (bindS (G x σ h).noex (fKk B k))) : OK (forI G B xs σ h) :=
  for_ind I (fun s => OK s) done step xs σ h i
theorem ok_wh_ {C : MT} {B : MS} {σ : PSt} {h : PH} (I : Nat → PSt → PH → Prop) {m : Nat} (i : I m σ h) (l : m < 1000000000000) (step : ∀ m σ h k, I m σ h → (∀ m' σ' h', m' < m → I m' σ' h' → OK (k σ' h')) → OK (bindS (C σ h) (wKk B k))) : OK (mWh C B σ h) :=
  wh_ind I (fun s => OK s) i l step
theorem eq_for_ {G : MG} {B : MS} {xs : List PV} {σ : PSt} {h : PH} {r : Fs} (I : List PV → PSt → PH → Prop) (i : I xs σ h) (done : ∀ σ h, I [] σ h → toF (Ss.nx σ h) = r) (step : ∀ x xs σ h k, I (x :: xs) σ h → (∀ σ' h', I xs σ' h' → toF (k σ' h') = r) → toF (bindS (G x σ h).noex (fKk B k)) = r) : toF (forI G B xs σ h) = r :=
  for_ind I (fun s => toF s = r) done step xs σ h i
theorem eq_wh_ {C : MT} {B : MS} {σ : PSt} {h : PH} {r : Fs} (I : Nat → PSt → PH → Prop) {m : Nat} (i : I m σ h) (l : m < 1000000000000) (step : ∀ m σ h k, I m σ h → (∀ m' σ' h', m' < m → I m' σ' h' → toF (k σ' h') = r) → toF (bindS (C σ h) (wKk B k)) = r) : toF (mWh C B σ h) = r :=
  wh_ind I (fun s => toF s = r) i l step
theorem ok_for_s {G : MG} {B : MS} {xs : List PV} {σ : PSt} {h : PH} {k0 : MS} (I : List PV → PSt → PH → Prop) (i : I xs σ h) (done : ∀ σ h, I [] σ h → OK ((Ss.nx σ h).seq k0)) (step : ∀ x xs σ h k, I (x :: xs) σ h → (∀ σ' h', I xs σ' h' → OK ((k σ' h').seq k0)) → OK ((bindS (G x σ h).noex (fKk B k)).seq k0)) : OK ((forI G B xs σ h).seq k0) :=
  for_ind I (fun s => OK (s.seq k0)) done step xs σ h i
theorem ok_wh_s {C : MT} {B : MS} {σ : PSt} {h : PH} {k0 : MS} (I : Nat → PSt → PH → Prop) {m : Nat} (i : I m σ h) (l : m < 1000000000000) (step : ∀ m σ h k, I m σ h → (∀ m' σ' h', m' < m → I m' σ' h' → OK ((k σ' h').seq k0)) → OK ((bindS (C σ h) (wKk B k)).seq k0)) : OK ((mWh C B σ h).seq k0) :=
  wh_ind I (fun s => OK (s.seq k0)) i l step
theorem eq_for_s {G : MG} {B : MS} {xs : List PV} {σ : PSt} {h : PH} {r : Fs} {k0 : MS} (I : List PV → PSt → PH → Prop) (i : I xs σ h) (done : ∀ σ h, I [] σ h → toF ((Ss.nx σ h).seq k0) = r) (step : ∀ x xs σ h k, I (x :: xs) σ h → (∀ σ' h', I xs σ' h' → toF ((k σ' h').seq k0) = r) → toF ((bindS (G x σ h).noex (fKk B k)).seq k0) = r) : toF ((forI G B xs σ h).seq k0) = r :=
  for_ind I (fun s => toF (s.seq k0) = r) done step xs σ h i
theorem eq_wh_s {C : MT} {B : MS} {σ : PSt} {h : PH} {r : Fs} {k0 : MS} (I : Nat → PSt → PH → Prop) {m : Nat} (i : I m σ h) (l : m < 1000000000000) (step : ∀ m σ h k, I m σ h → (∀ m' σ' h', m' < m → I m' σ' h' → toF ((k σ' h').seq k0) = r) → toF ((bindS (C σ h) (wKk B k)).seq k0) = r) : toF ((mWh C B σ h).seq k0) = r :=
  wh_ind I (fun s => toF (s.seq k0) = r) i l step
theorem ok_for_ss {G : MG} {B : MS} {xs : List PV} {σ : PSt} {h : PH} {k0 k1 : MS} (I : List PV → PSt → PH → Prop) (i : I xs σ h) (done : ∀ σ h, I [] σ h → OK (((Ss.nx σ h).seq k0).seq k1)) (step : ∀ x xs σ h k, I (x :: xs) σ h → (∀ σ' h', I xs σ' h' → OK (((k σ' h').seq k0).seq k1)) → OK (((bindS (G x σ h).noex (fKk B k)).seq k0).seq k1)) : OK (((forI G B xs σ h).seq k0).seq k1) :=
  for_ind I (fun s => OK ((s.seq k0).seq k1)) done step xs σ h i
theorem ok_wh_ss {C : MT} {B : MS} {σ : PSt} {h : PH} {k0 k1 : MS} (I : Nat → PSt → PH → Prop) {m : Nat} (i : I m σ h) (l : m < 1000000000000) (step : ∀ m σ h k, I m σ h → (∀ m' σ' h', m' < m → I m' σ' h' → OK (((k σ' h').seq k0).seq k1)) → OK (((bindS (C σ h) (wKk B k)).seq k0).seq k1)) : OK (((mWh C B σ h).seq k0).seq k1) :=
  wh_ind I (fun s => OK ((s.seq k0).seq k1)) i l step
theorem eq_for_ss {G : MG} {B : MS} {xs : List PV} {σ : PSt} {h : PH} {r : Fs} {k0 k1 : MS} (I : List PV → PSt → PH → Prop) (i : I xs σ h) (done : ∀ σ h, I [] σ h → toF (((Ss.nx σ h).seq k0).seq k1) = r) (step : ∀ x xs σ h k, I (x :: xs) σ h → (∀ σ' h', I xs σ' h' → toF (((k σ' h').seq k0).seq k1) = r) → toF (((bindS (G x σ h).noex (fKk B k)).seq k0).seq k1) = r) : toF (((forI G B xs σ h).seq k0).seq k1) = r :=
  for_ind I (fun s => toF ((s.seq k0).seq k1) = r) done step xs σ h i
theorem eq_wh_ss {C : MT} {B : MS} {σ : PSt} {h : PH} {r : Fs} {k0 k1 : MS} (I : Nat → PSt → PH → Prop) {m : Nat} (i : I m σ h) (l : m < 1000000000000) (step : ∀ m σ h k, I m σ h → (∀ m' σ' h', m' < m → I m' σ' h' → toF (((k σ' h').seq k0).seq k1) = r) → toF (((bindS (C σ h) (wKk B k)).seq k0).seq k1) = r) : toF (((mWh C B σ h).seq k0).seq k1) = r :=
  wh_ind I (fun s => toF ((s.seq k0).seq k1) = r) i l step
theorem ok_for_sss {G : MG} {B : MS} {xs : List PV} {σ : PSt} {h : PH} {k0 k1 k2 : MS} (I : List PV → PSt → PH → Prop) (i : I xs σ h) (done : ∀ σ h, I [] σ h → OK ((((Ss.nx σ h).seq k0).seq k1).seq k2)) (step : ∀ x xs σ h k, I (x :: xs) σ h → (∀ σ' h', I xs σ' h' → OK ((((k σ' h').seq k0).seq k1).seq k2)) → OK ((((bindS (G x σ h).noex (fKk B k)).seq k0).seq k1).seq k2)) : OK ((((forI G B xs σ h).seq k0).seq k1).seq k2) :=
  for_ind I (fun s => OK (((s.seq k0).seq k1).seq k2)) done step xs σ h i
theorem ok_wh_sss {C : MT} {B : MS} {σ : PSt} {h : PH} {k0 k1 k2 : MS} (I : Nat → PSt → PH → Prop) {m : Nat} (i : I m σ h) (l : m < 1000000000000) (step : ∀ m σ h k, I m σ h → (∀ m' σ' h', m' < m → I m' σ' h' → OK ((((k σ' h').seq k0).seq k1).seq k2)) → OK ((((bindS (C σ h) (wKk B k)).seq k0).seq k1).seq k2)) : OK ((((mWh C B σ h).seq k0).seq k1).seq k2) :=
  wh_ind I (fun s => OK (((s.seq k0).seq k1).seq k2)) i l step
theorem eq_for_sss {G : MG} {B : MS} {xs : List PV} {σ : PSt} {h : PH} {r : Fs} {k0 k1 k2 : MS} (I : List PV → PSt → PH → Prop) (i : I xs σ h) (done : ∀ σ h, I [] σ h → toF ((((Ss.nx σ h).seq k0).seq k1).seq k2) = r) (step : ∀ x xs σ h k, I (x :: xs) σ h → (∀ σ' h', I xs σ' h' → toF ((((k σ' h').seq k0).seq k1).seq k2) = r) → toF ((((bindS (G x σ h).noex (fKk B k)).seq k0).seq k1).seq k2) = r) : toF ((((forI G B xs σ h).seq k0).seq k1).seq k2) = r :=
  for_ind I (fun s => toF (((s.seq k0).seq k1).seq k2) = r) done step xs σ h i
theorem eq_wh_sss {C : MT} {B : MS} {σ : PSt} {h : PH} {r : Fs} {k0 k1 k2 : MS} (I : Nat → PSt → PH → Prop) {m : Nat} (i : I m σ h) (l : m < 1000000000000) (step : ∀ m σ h k, I m σ h → (∀ m' σ' h', m' < m → I m' σ' h' → toF ((((k σ' h').seq k0).seq k1).seq k2) = r) → toF ((((bindS (C σ h) (wKk B k)).seq k0).seq k1).seq k2) = r) : toF ((((mWh C B σ h).seq k0).seq k1).seq k2) = r :=
  wh_ind I (fun s => toF (((s.seq k0).seq k1).seq k2) = r) i l step
theorem ok_for_l {G : MG} {B : MS} {xs : List PV} {σ : PSt} {h : PH} {k0 : MS} (I : List PV → PSt → PH → Prop) (i : I xs σ h) (done : ∀ σ h, I [] σ h → OK ((Ss.nx σ h).loop k0)) (step : ∀ x xs σ h k, I (x :: xs) σ h → (∀ σ' h', I xs σ' h' → OK ((k σ' h').loop k0)) → OK ((bindS (G x σ h).noex (fKk B k)).loop k0)) : OK ((forI G B xs σ h).loop k0) :=
  for_ind I (fun s => OK (s.loop k0)) done step xs σ h i
theorem ok_wh_l {C : MT} {B : MS} {σ : PSt} {h : PH} {k0 : MS} (I : Nat → PSt → PH → Prop) {m : Nat} (i : I m σ h) (l : m < 1000000000000) (step : ∀ m σ h k, I m σ h → (∀ m' σ' h', m' < m → I m' σ' h' → OK ((k σ' h').loop k0)) → OK ((bindS (C σ h) (wKk B k)).loop k0)) : OK ((mWh C B σ h).loop k0) :=
  wh_ind I (fun s => OK (s.loop k0)) i l step
theorem eq_for_l {G : MG} {B : MS} {xs : List PV} {σ : PSt} {h : PH} {r : Fs} {k0 : MS} (I : List PV → PSt → PH → Prop) (i : I xs σ h) (done : ∀ σ h, I [] σ h → toF ((Ss.nx σ h).loop k0) = r) (step : ∀ x xs σ h k, I (x :: xs) σ h → (∀ σ' h', I xs σ' h' → toF ((k σ' h').loop k0) = r) → toF ((bindS (G x σ h).noex (fKk B k)).loop k0) = r) : toF ((forI G B xs σ h).loop k0) = r :=
  for_ind I (fun s => toF (s.loop k0) = r) done step xs σ h i
theorem eq_wh_l {C : MT} {B : MS} {σ : PSt} {h : PH} {r : Fs} {k0 : MS} (I : Nat → PSt → PH → Prop) {m : Nat} (i : I m σ h) (l : m < 1000000000000) (step : ∀ m σ h k, I m σ h → (∀ m' σ' h', m' < m → I m' σ' h' → toF ((k σ' h').loop k0) = r) → toF ((bindS (C σ h) (wKk B k)).loop k0) = r) : toF ((mWh C B σ h).loop k0) = r :=
  wh_ind I (fun s => toF (s.loop k0) = r) i l step
theorem ok_for_ls {G : MG} {B : MS} {xs : List PV} {σ : PSt} {h : PH} {k0 k1 : MS} (I : List PV → PSt → PH → Prop) (i : I xs σ h) (done : ∀ σ h, I [] σ h → OK (((Ss.nx σ h).loop k0).seq k1)) (step : ∀ x xs σ h k, I (x :: xs) σ h → (∀ σ' h', I xs σ' h' → OK (((k σ' h').loop k0).seq k1)) → OK (((bindS (G x σ h).noex (fKk B k)).loop k0).seq k1)) : OK (((forI G B xs σ h).loop k0).seq k1) :=
  for_ind I (fun s => OK ((s.loop k0).seq k1)) done step xs σ h i
theorem ok_wh_ls {C : MT} {B : MS} {σ : PSt} {h : PH} {k0 k1 : MS} (I : Nat → PSt → PH → Prop) {m : Nat} (i : I m σ h) (l : m < 1000000000000) (step : ∀ m σ h k, I m σ h → (∀ m' σ' h', m' < m → I m' σ' h' → OK (((k σ' h').loop k0).seq k1)) → OK (((bindS (C σ h) (wKk B k)).loop k0).seq k1)) : OK (((mWh C B σ h).loop k0).seq k1) :=
  wh_ind I (fun s => OK ((s.loop k0).seq k1)) i l step
theorem eq_for_ls {G : MG} {B : MS} {xs : List PV} {σ : PSt} {h : PH} {r : Fs} {k0 k1 : MS} (I : List PV → PSt → PH → Prop) (i : I xs σ h) (done : ∀ σ h, I [] σ h → toF (((Ss.nx σ h).loop k0).seq k1) = r) (step : ∀ x xs σ h k, I (x :: xs) σ h → (∀ σ' h', I xs σ' h' → toF (((k σ' h').loop k0).seq k1) = r) → toF (((bindS (G x σ h).noex (fKk B k)).loop k0).seq k1) = r) : toF (((forI G B xs σ h).loop k0).seq k1) = r :=
  for_ind I (fun s => toF ((s.loop k0).seq k1) = r) done step xs σ h i
theorem eq_wh_ls {C : MT} {B : MS} {σ : PSt} {h : PH} {r : Fs} {k0 k1 : MS} (I : Nat → PSt → PH → Prop) {m : Nat} (i : I m σ h) (l : m < 1000000000000) (step : ∀ m σ h k, I m σ h → (∀ m' σ' h', m' < m → I m' σ' h' → toF (((k σ' h').loop k0).seq k1) = r) → toF (((bindS (C σ h) (wKk B k)).loop k0).seq k1) = r) : toF (((mWh C B σ h).loop k0).seq k1) = r :=
  wh_ind I (fun s => toF ((s.loop k0).seq k1) = r) i l step
theorem ok_for_lss {G : MG} {B : MS} {xs : List PV} {σ : PSt} {h : PH} {k0 k1 k2 : MS} (I : List PV → PSt → PH → Prop) (i : I xs σ h) (done : ∀ σ h, I [] σ h → OK ((((Ss.nx σ h).loop k0).seq k1).seq k2)) (step : ∀ x xs σ h k, I (x :: xs) σ h → (∀ σ' h', I xs σ' h' → OK ((((k σ' h').loop k0).seq k1).seq k2)) → OK ((((bindS (G x σ h).noex (fKk B k)).loop k0).seq k1).seq k2)) : OK ((((forI G B xs σ h).loop k0).seq k1).seq k2) :=
  for_ind I (fun s => OK (((s.loop k0).seq k1).seq k2)) done step xs σ h i
theorem ok_wh_lss {C : MT} {B : MS} {σ : PSt} {h : PH} {k0 k1 k2 : MS} (I : Nat → PSt → PH → Prop) {m : Nat} (i : I m σ h) (l : m < 1000000000000) (step : ∀ m σ h k, I m σ h → (∀ m' σ' h', m' < m → I m' σ' h' → OK ((((k σ' h').loop k0).seq k1).seq k2)) → OK ((((bindS (C σ h) (wKk B k)).loop k0).seq k1).seq k2)) : OK ((((mWh C B σ h).loop k0).seq k1).seq k2) :=
  wh_ind I (fun s => OK (((s.loop k0).seq k1).seq k2)) i l step
theorem eq_for_lss {G : MG} {B : MS} {xs : List PV} {σ : PSt} {h : PH} {r : Fs} {k0 k1 k2 : MS} (I : List PV → PSt → PH → Prop) (i : I xs σ h) (done : ∀ σ h, I [] σ h → toF ((((Ss.nx σ h).loop k0).seq k1).seq k2) = r) (step : ∀ x xs σ h k, I (x :: xs) σ h → (∀ σ' h', I xs σ' h' → toF ((((k σ' h').loop k0).seq k1).seq k2) = r) → toF ((((bindS (G x σ h).noex (fKk B k)).loop k0).seq k1).seq k2) = r) : toF ((((forI G B xs σ h).loop k0).seq k1).seq k2) = r :=
  for_ind I (fun s => toF (((s.loop k0).seq k1).seq k2) = r) done step xs σ h i
theorem eq_wh_lss {C : MT} {B : MS} {σ : PSt} {h : PH} {r : Fs} {k0 k1 k2 : MS} (I : Nat → PSt → PH → Prop) {m : Nat} (i : I m σ h) (l : m < 1000000000000) (step : ∀ m σ h k, I m σ h → (∀ m' σ' h', m' < m → I m' σ' h' → toF ((((k σ' h').loop k0).seq k1).seq k2) = r) → toF ((((bindS (C σ h) (wKk B k)).loop k0).seq k1).seq k2) = r) : toF ((((mWh C B σ h).loop k0).seq k1).seq k2) = r :=
  wh_ind I (fun s => toF (((s.loop k0).seq k1).seq k2) = r) i l step
theorem ok_for_sl {G : MG} {B : MS} {xs : List PV} {σ : PSt} {h : PH} {k0 k1 : MS} (I : List PV → PSt → PH → Prop) (i : I xs σ h) (done : ∀ σ h, I [] σ h → OK (((Ss.nx σ h).seq k0).loop k1)) (step : ∀ x xs σ h k, I (x :: xs) σ h → (∀ σ' h', I xs σ' h' → OK (((k σ' h').seq k0).loop k1)) → OK (((bindS (G x σ h).noex (fKk B k)).seq k0).loop k1)) : OK (((forI G B xs σ h).seq k0).loop k1) :=
  for_ind I (fun s => OK ((s.seq k0).loop k1)) done step xs σ h i
theorem ok_wh_sl {C : MT} {B : MS} {σ : PSt} {h : PH} {k0 k1 : MS} (I : Nat → PSt → PH → Prop) {m : Nat} (i : I m σ h) (l : m < 1000000000000) (step : ∀ m σ h k, I m σ h → (∀ m' σ' h', m' < m → I m' σ' h' → OK (((k σ' h').seq k0).loop k1)) → OK (((bindS (C σ h) (wKk B k)).seq k0).loop k1)) : OK (((mWh C B σ h).seq k0).loop k1) :=
  wh_ind I (fun s => OK ((s.seq k0).loop k1)) i l step
theorem eq_for_sl {G : MG} {B : MS} {xs : List PV} {σ : PSt} {h : PH} {r : Fs} {k0 k1 : MS} (I : List PV → PSt → PH → Prop) (i : I xs σ h) (done : ∀ σ h, I [] σ h → toF (((Ss.nx σ h).seq k0).loop k1) = r) (step : ∀ x xs σ h k, I (x :: xs) σ h → (∀ σ' h', I xs σ' h' → toF (((k σ' h').seq k0).loop k1) = r) → toF (((bindS (G x σ h).noex (fKk B k)).seq k0).loop k1) = r) : toF (((forI G B xs σ h).seq k0).loop k1) = r :=
  for_ind I (fun s => toF ((s.seq k0).loop k1) = r) done step xs σ h i
theorem eq_wh_sl {C : MT} {B : MS} {σ : PSt} {h : PH} {r : Fs} {k0 k1 : MS} (I : Nat → PSt → PH → Prop) {m : Nat} (i : I m σ h) (l : m < 1000000000000) (step : ∀ m σ h k, I m σ h → (∀ m' σ' h', m' < m → I m' σ' h' → toF (((k σ' h').seq k0).loop k1) = r) → toF (((bindS (C σ h) (wKk B k)).seq k0).loop k1) = r) : toF (((mWh C B σ h).seq k0).loop k1) = r :=
  wh_ind I (fun s => toF ((s.seq k0).loop k1) = r) i l step
theorem ok_for_sls {G : MG} {B : MS} {xs : List PV} {σ : PSt} {h : PH} {k0 k1 k2 : MS} (I : List PV → PSt → PH → Prop) (i : I xs σ h) (done : ∀ σ h, I [] σ h → OK ((((Ss.nx σ h).seq k0).loop k1).seq k2)) (step : ∀ x xs σ h k, I (x :: xs) σ h → (∀ σ' h', I xs σ' h' → OK ((((k σ' h').seq k0).loop k1).seq k2)) → OK ((((bindS (G x σ h).noex (fKk B k)).seq k0).loop k1).seq k2)) : OK ((((forI G B xs σ h).seq k0).loop k1).seq k2) :=
  for_ind I (fun s => OK (((s.seq k0).loop k1).seq k2)) done step xs σ h i
theorem ok_wh_sls {C : MT} {B : MS} {σ : PSt} {h : PH} {k0 k1 k2 : MS} (I : Nat → PSt → PH → Prop) {m : Nat} (i : I m σ h) (l : m < 1000000000000) (step : ∀ m σ h k, I m σ h → (∀ m' σ' h', m' < m → I m' σ' h' → OK ((((k σ' h').seq k0).loop k1).seq k2)) → OK ((((bindS (C σ h) (wKk B k)).seq k0).loop k1).seq k2)) : OK ((((mWh C B σ h).seq k0).loop k1).seq k2) :=
  wh_ind I (fun s => OK (((s.seq k0).loop k1).seq k2)) i l step
theorem eq_for_sls {G : MG} {B : MS} {xs : List PV} {σ : PSt} {h : PH} {r : Fs} {k0 k1 k2 : MS} (I : List PV → PSt → PH → Prop) (i : I xs σ h) (done : ∀ σ h, I [] σ h → toF ((((Ss.nx σ h).seq k0).loop k1).seq k2) = r) (step : ∀ x xs σ h k, I (x :: xs) σ h → (∀ σ' h', I xs σ' h' → toF ((((k σ' h').seq k0).loop k1).seq k2) = r) → toF ((((bindS (G x σ h).noex (fKk B k)).seq k0).loop k1).seq k2) = r) : toF ((((forI G B xs σ h).seq k0).loop k1).seq k2) = r :=
  for_ind I (fun s => toF (((s.seq k0).loop k1).seq k2) = r) done step xs σ h i
theorem eq_wh_sls {C : MT} {B : MS} {σ : PSt} {h : PH} {r : Fs} {k0 k1 k2 : MS} (I : Nat → PSt → PH → Prop) {m : Nat} (i : I m σ h) (l : m < 1000000000000) (step : ∀ m σ h k, I m σ h → (∀ m' σ' h', m' < m → I m' σ' h' → toF ((((k σ' h').seq k0).loop k1).seq k2) = r) → toF ((((bindS (C σ h) (wKk B k)).seq k0).loop k1).seq k2) = r) : toF ((((mWh C B σ h).seq k0).loop k1).seq k2) = r :=
  wh_ind I (fun s => toF (((s.seq k0).loop k1).seq k2) = r) i l step
theorem ok_for_slss {G : MG} {B : MS} {xs : List PV} {σ : PSt} {h : PH} {k0 k1 k2 k3 : MS} (I : List PV → PSt → PH → Prop) (i : I xs σ h) (done : ∀ σ h, I [] σ h → OK (((((Ss.nx σ h).seq k0).loop k1).seq k2).seq k3)) (step : ∀ x xs σ h k, I (x :: xs) σ h → (∀ σ' h', I xs σ' h' → OK (((((k σ' h').seq k0).loop k1).seq k2).seq k3)) → OK (((((bindS (G x σ h).noex (fKk B k)).seq k0).loop k1).seq k2).seq k3)) : OK (((((forI G B xs σ h).seq k0).loop k1).seq k2).seq k3) :=
  for_ind I (fun s => OK ((((s.seq k0).loop k1).seq k2).seq k3)) done step xs σ h i
theorem ok_wh_slss {C : MT} {B : MS} {σ : PSt} {h : PH} {k0 k1 k2 k3 : MS} (I : Nat → PSt → PH → Prop) {m : Nat} (i : I m σ h) (l : m < 1000000000000) (step : ∀ m σ h k, I m σ h → (∀ m' σ' h', m' < m → I m' σ' h' → OK (((((k σ' h').seq k0).loop k1).seq k2).seq k3)) → OK (((((bindS (C σ h) (wKk B k)).seq k0).loop k1).seq k2).seq k3)) : OK (((((mWh C B σ h).seq k0).loop k1).seq k2).seq k3) :=
  wh_ind I (fun s => OK ((((s.seq k0).loop k1).seq k2).seq k3)) i l step
theorem eq_for_slss {G : MG} {B : MS} {xs : List PV} {σ : PSt} {h : PH} {r : Fs} {k0 k1 k2 k3 : MS} (I : List PV → PSt → PH → Prop) (i : I xs σ h) (done : ∀ σ h, I [] σ h → toF (((((Ss.nx σ h).seq k0).loop k1).seq k2).seq k3) = r) (step : ∀ x xs σ h k, I (x :: xs) σ h → (∀ σ' h', I xs σ' h' → toF (((((k σ' h').seq k0).loop k1).seq k2).seq k3) = r) → toF (((((bindS (G x σ h).noex (fKk B k)).seq k0).loop k1).seq k2).seq k3) = r) : toF (((((forI G B xs σ h).seq k0).loop k1).seq k2).seq k3) = r :=
  for_ind I (fun s => toF ((((s.seq k0).loop k1).seq k2).seq k3) = r) done step xs σ h i
theorem eq_wh_slss {C : MT} {B : MS} {σ : PSt} {h : PH} {r : Fs} {k0 k1 k2 k3 : MS} (I : Nat → PSt → PH → Prop) {m : Nat} (i : I m σ h) (l : m < 1000000000000) (step : ∀ m σ h k, I m σ h → (∀ m' σ' h', m' < m → I m' σ' h' → toF (((((k σ' h').seq k0).loop k1).seq k2).seq k3) = r) → toF (((((bindS (C σ h) (wKk B k)).seq k0).loop k1).seq k2).seq k3) = r) : toF (((((mWh C B σ h).seq k0).loop k1).seq k2).seq k3) = r :=
  wh_ind I (fun s => toF ((((s.seq k0).loop k1).seq k2).seq k3) = r) i l step
theorem ok_for_ssls {G : MG} {B : MS} {xs : List PV} {σ : PSt} {h : PH} {k0 k1 k2 k3 : MS} (I : List PV → PSt → PH → Prop) (i : I xs σ h) (done : ∀ σ h, I [] σ h → OK (((((Ss.nx σ h).seq k0).seq k1).loop k2).seq k3)) (step : ∀ x xs σ h k, I (x :: xs) σ h → (∀ σ' h', I xs σ' h' → OK (((((k σ' h').seq k0).seq k1).loop k2).seq k3)) → OK (((((bindS (G x σ h).noex (fKk B k)).seq k0).seq k1).loop k2).seq k3)) : OK (((((forI G B xs σ h).seq k0).seq k1).loop k2).seq k3) :=
  for_ind I (fun s => OK ((((s.seq k0).seq k1).loop k2).seq k3)) done step xs σ h i
theorem ok_wh_ssls {C : MT} {B : MS} {σ : PSt} {h : PH} {k0 k1 k2 k3 : MS} (I : Nat → PSt → PH → Prop) {m : Nat} (i : I m σ h) (l : m < 1000000000000) (step : ∀ m σ h k, I m σ h → (∀ m' σ' h', m' < m → I m' σ' h' → OK (((((k σ' h').seq k0).seq k1).loop k2).seq k3)) → OK (((((bindS (C σ h) (wKk B k)).seq k0).seq k1).loop k2).seq k3)) : OK (((((mWh C B σ h).seq k0).seq k1).loop k2).seq k3) :=
  wh_ind I (fun s => OK ((((s.seq k0).seq k1).loop k2).seq k3)) i l step
theorem eq_for_ssls {G : MG} {B : MS} {xs : List PV} {σ : PSt} {h : PH} {r : Fs} {k0 k1 k2 k3 : MS} (I : List PV → PSt → PH → Prop) (i : I xs σ h) (done : ∀ σ h, I [] σ h → toF (((((Ss.nx σ h).seq k0).seq k1).loop k2).seq k3) = r) (step : ∀ x xs σ h k, I (x :: xs) σ h → (∀ σ' h', I xs σ' h' → toF (((((k σ' h').seq k0).seq k1).loop k2).seq k3) = r) → toF (((((bindS (G x σ h).noex (fKk B k)).seq k0).seq k1).loop k2).seq k3) = r) : toF (((((forI G B xs σ h).seq k0).seq k1).loop k2).seq k3) = r :=
  for_ind I (fun s => toF ((((s.seq k0).seq k1).loop k2).seq k3) = r) done step xs σ h i
theorem eq_wh_ssls {C : MT} {B : MS} {σ : PSt} {h : PH} {r : Fs} {k0 k1 k2 k3 : MS} (I : Nat → PSt → PH → Prop) {m : Nat} (i : I m σ h) (l : m < 1000000000000) (step : ∀ m σ h k, I m σ h → (∀ m' σ' h', m' < m → I m' σ' h' → toF (((((k σ' h').seq k0).seq k1).loop k2).seq k3) = r) → toF (((((bindS (C σ h) (wKk B k)).seq k0).seq k1).loop k2).seq k3) = r) : toF (((((mWh C B σ h).seq k0).seq k1).loop k2).seq k3) = r :=
  wh_ind I (fun s => toF ((((s.seq k0).seq k1).loop k2).seq k3) = r) i l step
theorem ok_for_lsls {G : MG} {B : MS} {xs : List PV} {σ : PSt} {h : PH} {k0 k1 k2 k3 : MS} (I : List PV → PSt → PH → Prop) (i : I xs σ h) (done : ∀ σ h, I [] σ h → OK (((((Ss.nx σ h).loop k0).seq k1).loop k2).seq k3)) (step : ∀ x xs σ h k, I (x :: xs) σ h → (∀ σ' h', I xs σ' h' → OK (((((k σ' h').loop k0).seq k1).loop k2).seq k3)) → OK (((((bindS (G x σ h).noex (fKk B k)).loop k0).seq k1).loop k2).seq k3)) : OK (((((forI G B xs σ h).loop k0).seq k1).loop k2).seq k3) :=
  for_ind I (fun s => OK ((((s.loop k0).seq k1).loop k2).seq k3)) done step xs σ h i
theorem ok_wh_lsls {C : MT} {B : MS} {σ : PSt} {h : PH} {k0 k1 k2 k3 : MS} (I : Nat → PSt → PH → Prop) {m : Nat} (i : I m σ h) (l : m < 1000000000000) (step : ∀ m σ h k, I m σ h → (∀ m' σ' h', m' < m → I m' σ' h' → OK (((((k σ' h').loop k0).seq k1).loop k2).seq k3)) → OK (((((bindS (C σ h) (wKk B k)).loop k0).seq k1).loop k2).seq k3)) : OK (((((mWh C B σ h).loop k0).seq k1).loop k2).seq k3) :=
  wh_ind I (fun s => OK ((((s.loop k0).seq k1).loop k2).seq k3)) i l step
theorem eq_for_lsls {G : MG} {B : MS} {xs : List PV} {σ : PSt} {h : PH} {r : Fs} {k0 k1 k2 k3 : MS} (I : List PV → PSt → PH → Prop) (i : I xs σ h) (done : ∀ σ h, I [] σ h → toF (((((Ss.nx σ h).loop k0).seq k1).loop k2).seq k3) = r) (step : ∀ x xs σ h k, I (x :: xs) σ h → (∀ σ' h', I xs σ' h' → toF (((((k σ' h').loop k0).seq k1).loop k2).seq k3) = r) → toF (((((bindS (G x σ h).noex (fKk B k)).loop k0).seq k1).loop k2).seq k3) = r) : toF (((((forI G B xs σ h).loop k0).seq k1).loop k2).seq k3) = r :=
  for_ind I (fun s => toF ((((s.loop k0).seq k1).loop k2).seq k3) = r) done step xs σ h i
theorem eq_wh_lsls {C : MT} {B : MS} {σ : PSt} {h : PH} {r : Fs} {k0 k1 k2 k3 : MS} (I : Nat → PSt → PH → Prop) {m : Nat} (i : I m σ h) (l : m < 1000000000000) (step : ∀ m σ h k, I m σ h → (∀ m' σ' h', m' < m → I m' σ' h' → toF (((((k σ' h').loop k0).seq k1).loop k2).seq k3) = r) → toF (((((bindS (C σ h) (wKk B k)).loop k0).seq k1).loop k2).seq k3) = r) : toF (((((mWh C B σ h).loop k0).seq k1).loop k2).seq k3) = r :=
  wh_ind I (fun s => toF ((((s.loop k0).seq k1).loop k2).seq k3) = r) i l step
theorem ok_for_slsls {G : MG} {B : MS} {xs : List PV} {σ : PSt} {h : PH} {k0 k1 k2 k3 k4 : MS} (I : List PV → PSt → PH → Prop) (i : I xs σ h) (done : ∀ σ h, I [] σ h → OK ((((((Ss.nx σ h).seq k0).loop k1).seq k2).loop k3).seq k4)) (step : ∀ x xs σ h k, I (x :: xs) σ h → (∀ σ' h', I xs σ' h' → OK ((((((k σ' h').seq k0).loop k1).seq k2).loop k3).seq k4)) → OK ((((((bindS (G x σ h).noex (fKk B k)).seq k0).loop k1).seq k2).loop k3).seq k4)) : OK ((((((forI G B xs σ h).seq k0).loop k1).seq k2).loop k3).seq k4) :=
  for_ind I (fun s => OK (((((s.seq k0).loop k1).seq k2).loop k3).seq k4)) done step xs σ h i
theorem ok_wh_slsls {C : MT} {B : MS} {σ : PSt} {h : PH} {k0 k1 k2 k3 k4 : MS} (I : Nat → PSt → PH → Prop) {m : Nat} (i : I m σ h) (l : m < 1000000000000) (step : ∀ m σ h k, I m σ h → (∀ m' σ' h', m' < m → I m' σ' h' → OK ((((((k σ' h').seq k0).loop k1).seq k2).loop k3).seq k4)) → OK ((((((bindS (C σ h) (wKk B k)).seq k0).loop k1).seq k2).loop k3).seq k4)) : OK ((((((mWh C B σ h).seq k0).loop k1).seq k2).loop k3).seq k4) :=
  wh_ind I (fun s => OK (((((s.seq k0).loop k1).seq k2).loop k3).seq k4)) i l step
theorem eq_for_slsls {G : MG} {B : MS} {xs : List PV} {σ : PSt} {h : PH} {r : Fs} {k0 k1 k2 k3 k4 : MS} (I : List PV → PSt → PH → Prop) (i : I xs σ h) (done : ∀ σ h, I [] σ h → toF ((((((Ss.nx σ h).seq k0).loop k1).seq k2).loop k3).seq k4) = r) (step : ∀ x xs σ h k, I (x :: xs) σ h → (∀ σ' h', I xs σ' h' → toF ((((((k σ' h').seq k0).loop k1).seq k2).loop k3).seq k4) = r) → toF ((((((bindS (G x σ h).noex (fKk B k)).seq k0).loop k1).seq k2).loop k3).seq k4) = r) : toF ((((((forI G B xs σ h).seq k0).loop k1).seq k2).loop k3).seq k4) = r :=
  for_ind I (fun s => toF (((((s.seq k0).loop k1).seq k2).loop k3).seq k4) = r) done step xs σ h i
theorem eq_wh_slsls {C : MT} {B : MS} {σ : PSt} {h : PH} {r : Fs} {k0 k1 k2 k3 k4 : MS} (I : Nat → PSt → PH → Prop) {m : Nat} (i : I m σ h) (l : m < 1000000000000) (step : ∀ m σ h k, I m σ h → (∀ m' σ' h', m' < m → I m' σ' h' → toF ((((((k σ' h').seq k0).loop k1).seq k2).loop k3).seq k4) = r) → toF ((((((bindS (C σ h) (wKk B k)).seq k0).loop k1).seq k2).loop k3).seq k4) = r) : toF ((((((mWh C B σ h).seq k0).loop k1).seq k2).loop k3).seq k4) = r :=
  wh_ind I (fun s => toF (((((s.seq k0).loop k1).seq k2).loop k3).seq k4) = r) i l step
theorem ok_for_lslss {G : MG} {B : MS} {xs : List PV} {σ : PSt} {h : PH} {k0 k1 k2 k3 k4 : MS} (I : List PV → PSt → PH → Prop) (i : I xs σ h) (done : ∀ σ h, I [] σ h → OK ((((((Ss.nx σ h).loop k0).seq k1).loop k2).seq k3).seq k4)) (step : ∀ x xs σ h k, I (x :: xs) σ h → (∀ σ' h', I xs σ' h' → OK ((((((k σ' h').loop k0).seq k1).loop k2).seq k3).seq k4)) → OK ((((((bindS (G x σ h).noex (fKk B k)).loop k0).seq k1).loop k2).seq k3).seq k4)) : OK ((((((forI G B xs σ h).loop k0).seq k1).loop k2).seq k3).seq k4) :=
  for_ind I (fun s => OK (((((s.loop k0).seq k1).loop k2).seq k3).seq k4)) done step xs σ h i
theorem ok_wh_lslss {C : MT} {B : MS} {σ : PSt} {h : PH} {k0 k1 k2 k3 k4 : MS} (I : Nat → PSt → PH → Prop) {m : Nat} (i : I m σ h) (l : m < 1000000000000) (step : ∀ m σ h k, I m σ h → (∀ m' σ' h', m' < m → I m' σ' h' → OK ((((((k σ' h').loop k0).seq k1).loop k2).seq k3).seq k4)) → OK ((((((bindS (C σ h) (wKk B k)).loop k0).seq k1).loop k2).seq k3).seq k4)) : OK ((((((mWh C B σ h).loop k0).seq k1).loop k2).seq k3).seq k4) :=
  wh_ind I (fun s => OK (((((s.loop k0).seq k1).loop k2).seq k3).seq k4)) i l step
theorem eq_for_lslss {G : MG} {B : MS} {xs : List PV} {σ : PSt} {h : PH} {r : Fs} {k0 k1 k2 k3 k4 : MS} (I : List PV → PSt → PH → Prop) (i : I xs σ h) (done : ∀ σ h, I [] σ h → toF ((((((Ss.nx σ h).loop k0).seq k1).loop k2).seq k3).seq k4) = r) (step : ∀ x xs σ h k, I (x :: xs) σ h → (∀ σ' h', I xs σ' h' → toF ((((((k σ' h').loop k0).seq k1).loop k2).seq k3).seq k4) = r) → toF ((((((bindS (G x σ h).noex (fKk B k)).loop k0).seq k1).loop k2).seq k3).seq k4) = r) : toF ((((((forI G B xs σ h).loop k0).seq k1).loop k2).seq k3).seq k4) = r :=
  for_ind I (fun s => toF (((((s.loop k0).seq k1).loop k2).seq k3).seq k4) = r) done step xs σ h i
theorem eq_wh_lslss {C : MT} {B : MS} {σ : PSt} {h : PH} {r : Fs} {k0 k1 k2 k3 k4 : MS} (I : Nat → PSt → PH → Prop) {m : Nat} (i : I m σ h) (l : m < 1000000000000) (step : ∀ m σ h k, I m σ h → (∀ m' σ' h', m' < m → I m' σ' h' → toF ((((((k σ' h').loop k0).seq k1).loop k2).seq k3).seq k4) = r) → toF ((((((bindS (C σ h) (wKk B k)).loop k0).seq k1).loop k2).seq k3).seq k4) = r) : toF ((((((mWh C B σ h).loop k0).seq k1).loop k2).seq k3).seq k4) = r :=
  wh_ind I (fun s => toF (((((s.loop k0).seq k1).loop k2).seq k3).seq k4) = r) i l step
theorem ok_for_slslss {G : MG} {B : MS} {xs : List PV} {σ : PSt} {h : PH} {k0 k1 k2 k3 k4 k5 : MS} (I : List PV → PSt → PH → Prop) (i : I xs σ h) (done : ∀ σ h, I [] σ h → OK (((((((Ss.nx σ h).seq k0).loop k1).seq k2).loop k3).seq k4).seq k5)) (step : ∀ x xs σ h k, I (x :: xs) σ h → (∀ σ' h', I xs σ' h' → OK (((((((k σ' h').seq k0).loop k1).seq k2).loop k3).seq k4).seq k5)) → OK (((((((bindS (G x σ h).noex (fKk B k)).seq k0).loop k1).seq k2).loop k3).seq k4).seq k5)) : OK (((((((forI G B xs σ h).seq k0).loop k1).seq k2).loop k3).seq k4).seq k5) :=
  for_ind I (fun s => OK ((((((s.seq k0).loop k1).seq k2).loop k3).seq k4).seq k5)) done step xs σ h i
theorem ok_wh_slslss {C : MT} {B : MS} {σ : PSt} {h : PH} {k0 k1 k2 k3 k4 k5 : MS} (I : Nat → PSt → PH → Prop) {m : Nat} (i : I m σ h) (l : m < 1000000000000) (step : ∀ m σ h k, I m σ h → (∀ m' σ' h', m' < m → I m' σ' h' → OK (((((((k σ' h').seq k0).loop k1).seq k2).loop k3).seq k4).seq k5)) → OK (((((((bindS (C σ h) (wKk B k)).seq k0).loop k1).seq k2).loop k3).seq k4).seq k5)) : OK (((((((mWh C B σ h).seq k0).loop k1).seq k2).loop k3).seq k4).seq k5) :=
  wh_ind I (fun s => OK ((((((s.seq k0).loop k1).seq k2).loop k3).seq k4).seq k5)) i l step
theorem eq_for_slslss {G : MG} {B : MS} {xs : List PV} {σ : PSt} {h : PH} {r : Fs} {k0 k1 k2 k3 k4 k5 : MS} (I : List PV → PSt → PH → Prop) (i : I xs σ h) (done : ∀ σ h, I [] σ h → toF (((((((Ss.nx σ h).seq k0).loop k1).seq k2).loop k3).seq k4).seq k5) = r) (step : ∀ x xs σ h k, I (x :: xs) σ h → (∀ σ' h', I xs σ' h' → toF (((((((k σ' h').seq k0).loop k1).seq k2).loop k3).seq k4).seq k5) = r) → toF (((((((bindS (G x σ h).noex (fKk B k)).seq k0).loop k1).seq k2).loop k3).seq k4).seq k5) = r) : toF (((((((forI G B xs σ h).seq k0).loop k1).seq k2).loop k3).seq k4).seq k5) = r :=
  for_ind I (fun s => toF ((((((s.seq k0).loop k1).seq k2).loop k3).seq k4).seq k5) = r) done step xs σ h i
theorem eq_wh_slslss {C : MT} {B : MS} {σ : PSt} {h : PH} {r : Fs} {k0 k1 k2 k3 k4 k5 : MS} (I : Nat → PSt → PH → Prop) {m : Nat} (i : I m σ h) (l : m < 1000000000000) (step : ∀ m σ h k, I m σ h → (∀ m' σ' h', m' < m → I m' σ' h' → toF (((((((k σ' h').seq k0).loop k1).seq k2).loop k3).seq k4).seq k5) = r) → toF (((((((bindS (C σ h) (wKk B k)).seq k0).loop k1).seq k2).loop k3).seq k4).seq k5) = r) : toF (((((((mWh C B σ h).seq k0).loop k1).seq k2).loop k3).seq k4).seq k5) = r :=
  wh_ind I (fun s => toF ((((((s.seq k0).loop k1).seq k2).loop k3).seq k4).seq k5) = r) i l step
theorem ok_for_lslsls {G : MG} {B : MS} {xs : List PV} {σ : PSt} {h : PH} {k0 k1 k2 k3 k4 k5 : MS} (I : List PV → PSt → PH → Prop) (i : I xs σ h) (done : ∀ σ h, I [] σ h → OK (((((((Ss.nx σ h).loop k0).seq k1).loop k2).seq k3).loop k4).seq k5)) (step : ∀ x xs σ h k, I (x :: xs) σ h → (∀ σ' h', I xs σ' h' → OK (((((((k σ' h').loop k0).seq k1).loop k2).seq k3).loop k4).seq k5)) → OK (((((((bindS (G x σ h).noex (fKk B k)).loop k0).seq k1).loop k2).seq k3).loop k4).seq k5)) : OK (((((((forI G B xs σ h).loop k0).seq k1).loop k2).seq k3).loop k4).seq k5) :=
  for_ind I (fun s => OK ((((((s.loop k0).seq k1).loop k2).seq k3).loop k4).seq k5)) done step xs σ h i
theorem ok_wh_lslsls {C : MT} {B : MS} {σ : PSt} {h : PH} {k0 k1 k2 k3 k4 k5 : MS} (I : Nat → PSt → PH → Prop) {m : Nat} (i : I m σ h) (l : m < 1000000000000) (step : ∀ m σ h k, I m σ h → (∀ m' σ' h', m' < m → I m' σ' h' → OK (((((((k σ' h').loop k0).seq k1).loop k2).seq k3).loop k4).seq k5)) → OK (((((((bindS (C σ h) (wKk B k)).loop k0).seq k1).loop k2).seq k3).loop k4).seq k5)) : OK (((((((mWh C B σ h).loop k0).seq k1).loop k2).seq k3).loop k4).seq k5) :=
  wh_ind I (fun s => OK ((((((s.loop k0).seq k1).loop k2).seq k3).loop k4).seq k5)) i l step
theorem eq_for_lslsls {G : MG} {B : MS} {xs : List PV} {σ : PSt} {h : PH} {r : Fs} {k0 k1 k2 k3 k4 k5 : MS} (I : List PV → PSt → PH → Prop) (i : I xs σ h) (done : ∀ σ h, I [] σ h → toF (((((((Ss.nx σ h).loop k0).seq k1).loop k2).seq k3).loop k4).seq k5) = r) (step : ∀ x xs σ h k, I (x :: xs) σ h → (∀ σ' h', I xs σ' h' → toF (((((((k σ' h').loop k0).seq k1).loop k2).seq k3).loop k4).seq k5) = r) → toF (((((((bindS (G x σ h).noex (fKk B k)).loop k0).seq k1).loop k2).seq k3).loop k4).seq k5) = r) : toF (((((((forI G B xs σ h).loop k0).seq k1).loop k2).seq k3).loop k4).seq k5) = r :=
  for_ind I (fun s => toF ((((((s.loop k0).seq k1).loop k2).seq k3).loop k4).seq k5) = r) done step xs σ h i
theorem eq_wh_lslsls {C : MT} {B : MS} {σ : PSt} {h : PH} {r : Fs} {k0 k1 k2 k3 k4 k5 : MS} (I : Nat → PSt → PH → Prop) {m : Nat} (i : I m σ h) (l : m < 1000000000000) (step : ∀ m σ h k, I m σ h → (∀ m' σ' h', m' < m → I m' σ' h' → toF (((((((k σ' h').loop k0).seq k1).loop k2).seq k3).loop k4).seq k5) = r) → toF (((((((bindS (C σ h) (wKk B k)).loop k0).seq k1).loop k2).seq k3).loop k4).seq k5) = r) : toF (((((((mWh C B σ h).loop k0).seq k1).loop k2).seq k3).loop k4).seq k5) = r :=
  wh_ind I (fun s => toF ((((((s.loop k0).seq k1).loop k2).seq k3).loop k4).seq k5) = r) i l step
theorem ok_for_slslsls {G : MG} {B : MS} {xs : List PV} {σ : PSt} {h : PH} {k0 k1 k2 k3 k4 k5 k6 : MS} (I : List PV → PSt → PH → Prop) (i : I xs σ h) (done : ∀ σ h, I [] σ h → OK ((((((((Ss.nx σ h).seq k0).loop k1).seq k2).loop k3).seq k4).loop k5).seq k6)) (step : ∀ x xs σ h k, I (x :: xs) σ h → (∀ σ' h', I xs σ' h' → OK ((((((((k σ' h').seq k0).loop k1).seq k2).loop k3).seq k4).loop k5).seq k6)) → OK ((((((((bindS (G x σ h).noex (fKk B k)).seq k0).loop k1).seq k2).loop k3).seq k4).loop k5).seq k6)) : OK ((((((((forI G B xs σ h).seq k0).loop k1).seq k2).loop k3).seq k4).loop k5).seq k6) :=
  for_ind I (fun s => OK (((((((s.seq k0).loop k1).seq k2).loop k3).seq k4).loop k5).seq k6)) done step xs σ h i
theorem ok_wh_slslsls {C : MT} {B : MS} {σ : PSt} {h : PH} {k0 k1 k2 k3 k4 k5 k6 : MS} (I : Nat → PSt → PH → Prop) {m : Nat} (i : I m σ h) (l : m < 1000000000000) (step : ∀ m σ h k, I m σ h → (∀ m' σ' h', m' < m → I m' σ' h' → OK ((((((((k σ' h').seq k0).loop k1).seq k2).loop k3).seq k4).loop k5).seq k6)) → OK ((((((((bindS (C σ h) (wKk B k)).seq k0).loop k1).seq k2).loop k3).seq k4).loop k5).seq k6)) : OK ((((((((mWh C B σ h).seq k0).loop k1).seq k2).loop k3).seq k4).loop k5).seq k6) :=
  wh_ind I (fun s => OK (((((((s.seq k0).loop k1).seq k2).loop k3).seq k4).loop k5).seq k6)) i l step
theorem eq_for_slslsls {G : MG} {B : MS} {xs : List PV} {σ : PSt} {h : PH} {r : Fs} {k0 k1 k2 k3 k4 k5 k6 : MS} (I : List PV → PSt → PH → Prop) (i : I xs σ h) (done : ∀ σ h, I [] σ h → toF ((((((((Ss.nx σ h).seq k0).loop k1).seq k2).loop k3).seq k4).loop k5).seq k6) = r) (step : ∀ x xs σ h k, I (x :: xs) σ h → (∀ σ' h', I xs σ' h' → toF ((((((((k σ' h').seq k0).loop k1).seq k2).loop k3).seq k4).loop k5).seq k6) = r) → toF ((((((((bindS (G x σ h).noex (fKk B k)).seq k0).loop k1).seq k2).loop k3).seq k4).loop k5).seq k6) = r) : toF ((((((((forI G B xs σ h).seq k0).loop k1).seq k2).loop k3).seq k4).loop k5).seq k6) = r :=
  for_ind I (fun s => toF (((((((s.seq k0).loop k1).seq k2).loop k3).seq k4).loop k5).seq k6) = r) done step xs σ h i
theorem eq_wh_slslsls {C : MT} {B : MS} {σ : PSt} {h : PH} {r : Fs} {k0 k1 k2 k3 k4 k5 k6 : MS} (I : Nat → PSt → PH → Prop) {m : Nat} (i : I m σ h) (l : m < 1000000000000) (step : ∀ m σ h k, I m σ h → (∀ m' σ' h', m' < m → I m' σ' h' → toF ((((((((k σ' h').seq k0).loop k1).seq k2).loop k3).seq k4).loop k5).seq k6) = r) → toF ((((((((bindS (C σ h) (wKk B k)).seq k0).loop k1).seq k2).loop k3).seq k4).loop k5).seq k6) = r) : toF ((((((((mWh C B σ h).seq k0).loop k1).seq k2).loop k3).seq k4).loop k5).seq k6) = r :=
  wh_ind I (fun s => toF (((((((s.seq k0).loop k1).seq k2).loop k3).seq k4).loop k5).seq k6) = r) i l step
end PP
set_option Elab.async false
set_option linter.all false
set_option maxRecDepth 100000
set_option maxHeartbeats 4000000
namespace PP
open PySem PySem.Spec PyProof.Rows L2
section
variable {P : Program} {w : World} {K : PySem.W.Frag} {mg : Str → Option Value} {base : Heap}
def spScript (K : PySem.W.Frag) : Sp := fun vs H Q E => ∃ (a : Addr) (ns : List Int), vs = [.ref a] ∧ ns.length ≤ 63 ∧ Only H ∧ SqL K H a (ns.map V.int) ∧ ∀ H', Q (.bl true) H'
theorem RpL.script {H : Hp} {F : Addr → Prop} : ∀ ns : List Int, RpL K H F (ns.map .int) (ns.map V.int)
  | [] => .nil
  | n :: ns => .cons (.int n) (RpL.script ns)
theorem law_end {k : Nat} {f : Addr} {fd : FuncData} (F : FnOk P w K mg base (L2.CX P w) k f fd ["script"] (LF K mg 1 sp_law)) : FnOk P w K mg base (L2.CX P w) k f fd ["script"] (spScript K) :=
  F.imp fun vs H Q E ⟨a, ns, e, hl, o, s, q⟩ => by
    subst e
    refine ⟨rfl, [.rdl (ns.map .int)], fun _ => none, fun a o e => (by cases e), .cons (.rdl (vs := ns.map V.int) ?_ (RpL.script ns)) .nil, ns, rfl, hl, fun _ => rfl, fun h' H' v f r => ?_⟩
    · rcases s with s | s
      · rcases s with s | ⟨ob, s⟩
        · rcases o a with z | ⟨ob, xs, z⟩
          · rw [z] at s; cases s
          · rw [z] at s; cases s
        · exact .inl ⟨ob, s, fun z => by cases z⟩
      · exact .inr s
    · obtain ⟨_, r⟩ := r
      cases r
      exact q H'
/-- a def of which nothing is asked -/
theorem fnS_stk {x qual : Str} {st st' : Stmt} {f : Addr} {fd : FuncData} {N' ps : List Str} {k' n : Nat} (F : Fun K x qual st f fd) (bi : Binds K fd ps []) (m : mg x = some (.ref f)) : FnS (.fn0 P w K mg base N' st' k') x n [] (upF fun _ _ => .stk) where
  ex := ⟨f, fd, _, [], [], 0, m, F.kp, bi, .nil, Nat.zero_le _, fun _ _ => .nil, ⟨fun vs H Q E h => (by obtain ⟨_, _, _, _, _, d⟩ := h; exact d.elim), fun A outer s H args us vs Q E hr he hbd hv h => (by obtain ⟨_, _, _, _, _, d⟩ := h; exact d.elim)⟩⟩
  mono := upF_mono
theorem law_fin {k : Nat} {f : Addr} {fd : FuncData} {N : List Str} {st : Stmt} {R : MS} {F' : FN} (F : Fun K "law" "law" st f fd) (fs : FnScope N ["script"] (defScope st)) (hb : JSs (.fn0 P w K mg base N st k) (defBody st) (upS R)) (e : F' = runF N R)
    (z : ∀ (ns : List Int) (h : PH), ns.length ≤ 63 → wpF (F' [.rdl (ns.map .int)] h) (fun e _ => e = .val (.bl true)) fun _ _ => False) : FnOk P w K mg base (L2.CX P w) (k + 1) f fd ["script"] (spScript K) :=
  law_end (fnOk_of F fs rfl hb fun qs h Q E q => up_runF qs h Q E (by rw [← e]; exact law_of z qs h Q E q))
end
theorem walkP {l : PySem.W.OpenLaw} {q : Program} {loose : List Str} {XP : (Str → Option Value) → Heap → Prop} {YP : World → Heap → Prop} {d : DefRec} {K : Params → PySem.W.Frag} {k : Nat} (hn : l.most = some 63) (hdf : d.params.defaults = []) (hr : Room k callerA)
    (hY : ∀ (w : World) (h : Heap), YP w h → (K w.params).In h)
    (F : ∀ (w : World) (mg : Str → Option Value) (fa : Addr) (h : Heap), (K w.params).In h → h.Ns mainGlobals mg → mg d.name = some (.ref fa) →
      ∃ fd : FuncData, (∀ (s : Shared) (u : Value), BindsTo s fd ⟨[u], []⟩ [("script", u)]) ∧ ∀ base : Heap, (K w.params).In base → base.Ns mainGlobals mg → FnOk l.prog w (K w.params) mg base (L2.CX l.prog w) k fa fd ["script"] (spScript (K w.params))) :
    PySem.W.WalkO q loose XP YP l.row.toRowW d [] (fun f vs => PySem.call f vs) :=
  L2.walk_of (n := 63) (k := k) (x := "script") (CX := fun w => L2.CX l.prog w) (sp := fun w => spScript (K w.params)) hn (by decide) hdf hr hY F (fun _ H a ns hl ho hS => ⟨a, ns, rfl, hl, ho, hS, fun _ => rfl⟩) fun _ _ _ _ _ ⟨_, _, _, _, _, _, _, _, _, _, _, _, z⟩ => z
end PP
set_option Elab.async false
set_option linter.all false
set_option maxRecDepth 100000
set_option maxHeartbeats 1000000
/-! tuples of an error's fields, in an except suite -/
namespace PP
open PySem PySem.Spec PyProof.Rows L2
/-- an expression of a suite that changes nothing and comes to a flat value -/
structure JXP (S : Sc) (x : PX) (i : Nat) (e : Expr) (o : Option PV) : Prop where
  run : ∀ X cls d a, AtX S X cls d a → PE X e (fun σ H Q => XA X.K X.mg x cls d a i σ H ∧ ∃ p, o = some p ∧ ∀ v, (∀ H F, Rp X.K H F p v) → Q v H)
structure JXPs (S : Sc) (x : PX) (i : Nat) (es : List Expr) (os : List (Option PV)) : Prop where
  run : ∀ X cls d a, AtX S X cls d a → PA X es (fun σ H Q => XA X.K X.mg x cls d a i σ H ∧ ∃ ps, os = ps.map some ∧ ∀ vs, (∀ H F, RpL X.K H F ps vs) → Q vs H)
section
variable {S : Sc} {x : PX} {i : Nat} {y : Str} {p1 pos : Pos}
theorem jxp_of {e : Expr} {p : PV} {v : V} (r : ∀ K H F, Rp K H F p v) (h : ∀ X, PE X e (tC v)) : JXP S x i e (some p) where
  run := fun X cls d a A => pe_weak (h X) fun σ H Q ⟨xa, q, eq, z⟩ => by cases eq; exact z v fun H F => r _ H F
theorem jxp_int {k : Int} {j : Nat} : JXP S x i (.Constant (.int k) j pos) (some (.int k)) := jxp_of (fun _ _ _ => .int k) fun _ => pe_int
theorem jxp_str {k : Str} {j : Nat} : JXP S x i (.Constant (.str k) j pos) (some (.str k)) := jxp_of (fun _ _ _ => .str k) fun _ => pe_str
theorem jxp_fld {f : Str} {tb : Str → Bool} (ht : ∀ x, tb x = true → XF S.K S.mg x f) (hN : S.N[i]? = some y := by rfl) (hy : S.sc.names.lookup y = some .local := by rfl) (hd1 : (y == ("__debug__" : Str)) = false := by decide) (hd2 : (y == ("__classdict__" : Str)) = false := by decide)
    (hb : ∀ env, attributeBase (.Name y p1) f env (eval (.Name y p1) env) = eval (.Name y p1) env := by intro _; rfl) : JXP S x i (.Attribute (.Name y p1) f pos) (if tb x.cls = true then x.fs.lookup f else none) where
  run := fun X cls d a A => by
    obtain ⟨A0, Y, oe, pn, rfl, hz, hf⟩ := A
    refine ⟨fun pins s σ H Q I h => ?_⟩
    obtain ⟨xa, p, ep, q⟩ := h
    split at ep
    · rename_i hc
      obtain ⟨C, m, xfc, no⟩ := ht _ hc
      have k : Y.K = S.K := A0.K
      obtain ⟨C2, m2, e2, dd⟩ := xa.xr
      have m2' : S.mg x.cls = some (.ref C2) := (congrFun A0.mg x.cls).symm.trans m2
      rw [m] at m2'
      cases m2'
      rcases dd with ⟨z, _⟩ | ⟨d', us, z, w, fl⟩
      · rw [z] at ep; cases ep
      · obtain ⟨v, ev, rv⟩ := fl f p ep
        refine (pe_xf (X := Y) (n := f) (C := C) (by rw [k]; exact xfc) (by rw [k]; exact no) hz hf (pe_var (i := i) (by rw [A0.N]; exact hN) (vis_of A0 (Or.inl hy)) hd1 hd2) (hb _)).run pins s σ H Q I ?_
        exact ⟨.ref a, xa.sl, rfl, e2, d', us, v, z, w, ev, q v fun H' F => rv.keep fun _ _ z _ => by cases z⟩
    · cases ep
theorem jxps_nil : JXPs S x i [] [] where
  run := fun X cls d a A => pa_weak pa_nil fun σ H Q ⟨xa, ps, e, q⟩ => by
    cases ps with
    | nil => exact q [] fun _ _ => .nil
    | cons _ _ => cases e
theorem jxps_cons {e : Expr} {es : List Expr} {o : Option PV} {os : List (Option PV)} (h : JXP S x i e o) (hs : JXPs S x i es os) (st : ∀ env, starEach (e :: es) env = (false, eval e env) :: starEach es env := by intro _; rfl) : JXPs S x i (e :: es) (o :: os) where
  run := fun X cls d a A => pa_weak (pa_cons (h.run X cls d a A) (hs.run X cls d a A) (st _)) fun σ H Q ⟨xa, ps, e, q⟩ => by
    cases ps with
    | nil => cases e
    | cons p ps =>
      rw [List.map_cons, List.cons.injEq] at e
      exact ⟨xa, p, e.1, fun v rv => ⟨xa, ps, e.2, fun vs rvs => q (v :: vs) fun H F => .cons (rv H F) (rvs H F)⟩⟩
def allS : List (Option PV) → Option (List PV)
  | [] => some []
  | some p :: os => (allS os).map (p :: ·)
  | none :: _ => none
theorem allS_map : ∀ {os : List (Option PV)} {ps : List PV}, allS os = some ps → os = ps.map some
  | [], ps, e => by cases e; rfl
  | none :: os, ps, e => by cases e
  | some p :: os, ps, e => by
    unfold allS at e
    cases h : allS os with
    | none => rw [h] at e; cases e
    | some qs => rw [h] at e; cases e; rw [allS_map h]; rfl
def rXTo (σ : PSt) (h : PH) : Option (List PV) → Rs EV
  | some ps => if ps.length ≤ sizeLine then .ok (.val (.tup ps)) σ h else .stk
  | none => .stk
def rXT (os : List (Option PV)) : ME := fun σ h => rXTo σ h (allS os)
theorem x_xt {es : List Expr} {n : Nat} {os : List (Option PV)} (hs : JXPs S x i es os) : JEX S x i (.Tuple es n pos) (up (rXT os)) where
  mono := up_mono
  run := fun X cls d a A => pe_weak (pe_tup (hs.run X cls d a A)) fun σ H Q ⟨F, σp, h, s, xa, q⟩ => by
    unfold up rXT at q
    cases e : allS os with
    | none => rw [e] at q; exact q.elim
    | some ps =>
      rw [e] at q
      unfold rXTo at q
      dsimp only at q
      split at q
      · rename_i l
        refine ⟨xa, ps, allS_map e, fun vs rvs => ⟨by rw [← (rvs H F).length]; exact l, fun p n => ?_⟩⟩
        exact q F _ _ (.new n) (rsv (s.new n) (Rp.newTup s n (rvs H F)))
      · exact q.elim
theorem rxt1 {os : List (Option PV)} {σ : PSt} {h : PH} : rXT os σ h = rXTo σ h (allS os) := (rfl)
theorem rxt2 {ps : List PV} {σ : PSt} {h : PH} : rXTo σ h (some ps) = if ps.length ≤ sizeLine then .ok (.val (.tup ps)) σ h else .stk := (rfl)
theorem rxt3 : allS [] = some [] := (rfl)
theorem rxt4 {p : PV} {os : List (Option PV)} : allS (some p :: os) = (allS os).map (p :: ·) := (rfl)
end
end PP
set_option Elab.async false
set_option linter.all false
set_option maxRecDepth 100000
set_option maxHeartbeats 2000000
/-! objects in the evaluator -/
namespace PP
open PySem PySem.Spec PyProof.Rows L2
/-! e.f -/
def flK2 (tf : Str → Bool) (f : Str) (σ : PSt) (h : PH) : Option PO → Rs EV
  | some (.ins C fs) => if tf C = true then og ((fs.lookup f).map .val) σ h else .stk
  | _ => .stk
def flK (tf : Str → Bool) (f : Str) : EV → PSt → PH → Rs EV
  | .val (.ref a), σ, h => flK2 tf f σ h (h a)
  | _, _, _ => .stk
def rFld (tf : Str → Bool) (f : Str) (A : ME) : ME := fun σ h => (A σ h).bind (flK tf f)
/-! e.f = v -/
def fstK3 (tf : Str → Bool) (f : Str) (p : PV) (a : Addr) (σ : PSt) (h : PH) : Option PO → Ss
  | some (.ins C fs) => if tf C = true ∧ fs.length < 1000 then .nx σ (updP h a (.ins C (putFP f p fs))) else .stk
  | _ => .stk
def fstK2 (tf : Str → Bool) (f : Str) (p : PV) : EV → PSt → PH → Ss
  | .val (.ref a), σ, h => fstK3 tf f p a σ h (h a)
  | _, _, _ => .stk
def fstK1 (tf : Str → Bool) (f : Str) (B : ME) : PV → PSt → PH → Ss := fun p σ h => bindS (B σ h) (fstK2 tf f p)
def fstK (tf : Str → Bool) (f : Str) (B : ME) : EV → PSt → PH → Ss
  | .own o, σ, h => .new h fun a => fstK1 tf f B (.ref a) σ (updP h a o)
  | .val p, σ, h => fstK1 tf f B p σ h
  | .bor i, σ, h => bindS (shR (.bor i) σ h) (fstK1 tf f B)
def mFst (tf : Str → Bool) (f : Str) (A B : ME) : MS := fun σ h => bindS (A σ h) (fstK tf f B)
/-! o.m(..) -/
def meO4 (F : FN) (a : Addr) : List PV → PSt → PH → Rs EV := fun ps σ h => lift (F (.ref a :: ps) h) σ
def meO3 (n : Nat) (F : FN) (a : Addr) : List EV → PSt → PH → Rs EV := fun es σ h => if es.length = n then (shLR es σ h).bind (meO4 F a) else .stk
def meO2 (C m : Str) (n : Nat) (F : FN) (L : MA) (a : Addr) (σ : PSt) (h : PH) : Option PO → Rs EV
  | some (.ins D fs) => if D = C ∧ fs.lookup m = none then (L σ h).bind (meO3 n F a) else .stk
  | _ => .stk
def meO1 (C m : Str) (n : Nat) (F : FN) (L : MA) : EV → PSt → PH → Rs EV
  | .val (.ref a), σ, h => meO2 C m n F L a σ h (h a)
  | _, _, _ => .stk
def rMth (C m : Str) (n : Nat) (F : FN) (A : ME) (L : MA) : ME := fun σ h => (A σ h).bind (meO1 C m n F L)
/-! C(..) -/
def nwK3 (p : Addr) (σ : PSt) : Fs → Rs EV
  | .ok (.val .non) h => .ok (.val (.ref p)) σ h
  | .ex x h => .ex x σ h
  | .new h k => .new h fun q => nwK3 p σ (k q)
  | _ => .stk
def nwK2 (C : Str) (F : FN) : List PV → PSt → PH → Rs EV := fun ps σ h => .new h fun p => nwK3 p σ (F (.ref p :: ps) (updP h p (.ins C [])))
def nwK (C : Str) (n : Nat) (F : FN) : List EV → PSt → PH → Rs EV := fun es σ h => if es.length = n then (shLR es σ h).bind (nwK2 C F) else .stk
def rNew (C : Str) (n : Nat) (F : FN) (L : MA) : ME := fun σ h => (L σ h).bind (nwK C n F)
theorem wp_nw {p : Addr} {σ : PSt} {Q : EV → PSt → PH → Prop} {E : EPost} : ∀ {r : Fs}, wp (nwK3 p σ r) Q E → wpF r (fun r h3 => r = .val .non ∧ Q (.val (.ref p)) σ h3) (fun x h3 => E x σ h3)
  | .ok e h, q => by
    unfold nwK3 at q
    split at q
    · rename_i e1; cases e1; exact ⟨rfl, q⟩
    · rename_i e1; cases e1
    · rename_i e1; cases e1
    · exact q.elim
  | .ex x h, q => q
  | .stk, q => q.elim
  | .new h k, q => fun a n => wp_nw (q a n)
section
variable {S : Sc} {e : Expr} {st : Stmt} {A B : ME} {L : MA} {f C m : Str} {tf : Str → Bool} {F : FN} {n : Nat}
theorem x_fld (a : JE S e (wFld S.K f (up A))) (ht : ∀ C, tf C = true → CF S.K C f) : JE S e (up (rFld tf f A)) := a.le up_mono fun σ h Q E q => wpm (wpb q) fun ev σ1 h1 q => by
  match ev, q with
  | .val (.ref a), q =>
    have q : wp (flK2 tf f σ1 h1 (h1 a)) Q E := q
    match ho : h1 a, q with
    | some (.ins C fs), q =>
      unfold flK2 at q
      dsimp only at q
      split at q
      · rename_i hc
        obtain ⟨r, er, q⟩ := wp_og q
        cases hl : fs.lookup f with
        | none => rw [hl] at er; cases er
        | some p => rw [hl] at er; cases er; exact ⟨a, C, fs, p, rfl, ho, ht _ hc, hl, q⟩
      · exact q.elim
    | some (.lst _), q => exact q.elim
    | some (.dK _), q => exact q.elim
    | none, q => exact q.elim
theorem y_fst (a : JS S st (sFst S.K f (up A) (up B))) (ht : ∀ C, tf C = true → CF S.K C f) : JS S st (upS (mFst tf f A B)) := a.le upS_mono fun D σ h q => wpm (ws q) fun ev σ1 h1 q => by
  have fin : ∀ p σ1 h1, wpS (fstK1 tf f B p σ1 h1) D → (up B) σ1 h1 (fun ev σ2 h2 => ∃ a C fs, ev = .val (.ref a) ∧ h2 a = some (.ins C fs) ∧ CF S.K C f ∧ fs.length < 1000 ∧ D.nx σ2 (updP h2 a (.ins C (putFP f p fs)))) D.ex := fun p σ1 h1 q => wpm (ws q) fun ev σ2 h2 q => by
    match ev, q with
    | .val (.ref a), q =>
      have q : wpS (fstK3 tf f p a σ2 h2 (h2 a)) D := q
      match ho : h2 a, q with
      | some (.ins C fs), q =>
        unfold fstK3 at q
        dsimp only at q
        split at q
        · rename_i hc
          exact ⟨a, C, fs, rfl, ho, ht _ hc.1, hc.2, q⟩
        · exact q.elim
      | some (.lst _), q => exact q.elim
      | some (.dK _), q => exact q.elim
      | none, q => exact q.elim
  cases ev with
  | own o => exact fun a n => fin _ _ _ (q a n)
  | val p => exact fin _ _ _ q
  | bor i =>
    have q : wpS (bindS (shR (.bor i) σ1 h1) (fstK1 tf f B)) D := q
    exact share_mono (e := .bor i) (fun p σ h q => fin _ _ _ q) (wp_shR (ws q))
theorem x_mth (ja : JE S e (wMeth C m n (upF F) (up A) (up L))) : JE S e (up (rMth C m n F A L)) := ja.le up_mono fun σ h Q E q => wpm (wpb q) fun ev σ1 h1 q => by
  match ev, q with
  | .val (.ref a), q =>
    have q : wp (meO2 C m n F L a σ1 h1 (h1 a)) Q E := q
    match ho : h1 a, q with
    | some (.ins D fs), q =>
      unfold meO2 at q
      dsimp only at q
      split at q
      · rename_i hc
        obtain ⟨hD, hl⟩ := hc
        refine ⟨a, fs, rfl, by rw [ho, hD], hl, wpm (wpb q) fun es σ2 h2 q => ?_⟩
        unfold meO3 at q
        split at q
        · exact ⟨by assumption, wp_shLR (wpm (wpb q) fun ps σ2 h2 q => wp_lift.mp q)⟩
        · exact q.elim
      · exact q.elim
    | some (.lst _), q => exact q.elim
    | some (.dK _), q => exact q.elim
    | none, q => exact q.elim
theorem x_new (a : JE S e (wNew C n (upF F) (up L))) : JE S e (up (rNew C n F L)) := a.le up_mono fun σ h Q E q => wpm (wpb q) fun es σ1 h1 q => by
  unfold nwK at q
  split at q
  · exact ⟨by assumption, wp_shLR (wpm (wpb q) fun ps σ2 h2 q p n => wp_nw (q p n))⟩
  · exact q.elim
end
/-! the equations -/
theorem o1 {tf : Str → Bool} {f : Str} {A : ME} {σ : PSt} {h : PH} : rFld tf f A σ h = (A σ h).bind (flK tf f) := (rfl)
theorem o2 {tf : Str → Bool} {f : Str} {a : Addr} {σ : PSt} {h : PH} : flK tf f (.val (.ref a)) σ h = flK2 tf f σ h (h a) := (rfl)
theorem o3 {tf : Str → Bool} {f C : Str} {fs : List (Str × PV)} {σ : PSt} {h : PH} : flK2 tf f σ h (some (.ins C fs)) = if tf C = true then og ((fs.lookup f).map .val) σ h else .stk := (rfl)
theorem o4 {tf : Str → Bool} {f : Str} {A B : ME} {σ : PSt} {h : PH} : mFst tf f A B σ h = bindS (A σ h) (fstK tf f B) := (rfl)
theorem o5 {tf : Str → Bool} {f : Str} {B : ME} {p : PV} {σ : PSt} {h : PH} : fstK tf f B (.val p) σ h = fstK1 tf f B p σ h := (rfl)
theorem o6 {tf : Str → Bool} {f : Str} {B : ME} {i : Nat} {σ : PSt} {h : PH} : fstK tf f B (.bor i) σ h = bindS (shR (.bor i) σ h) (fstK1 tf f B) := (rfl)
theorem o7 {tf : Str → Bool} {f : Str} {B : ME} {o : PO} {σ : PSt} {h : PH} : fstK tf f B (.own o) σ h = .new h fun a => fstK1 tf f B (.ref a) σ (updP h a o) := (rfl)
theorem o8 {tf : Str → Bool} {f : Str} {B : ME} {p : PV} {σ : PSt} {h : PH} : fstK1 tf f B p σ h = bindS (B σ h) (fstK2 tf f p) := (rfl)
theorem o9 {tf : Str → Bool} {f : Str} {p : PV} {a : Addr} {σ : PSt} {h : PH} : fstK2 tf f p (.val (.ref a)) σ h = fstK3 tf f p a σ h (h a) := (rfl)
theorem o10 {tf : Str → Bool} {f C : Str} {p : PV} {a : Addr} {fs : List (Str × PV)} {σ : PSt} {h : PH} : fstK3 tf f p a σ h (some (.ins C fs)) = if tf C = true ∧ fs.length < 1000 then .nx σ (updP h a (.ins C (putFP f p fs))) else .stk := (rfl)
theorem o11 {C m : Str} {n : Nat} {F : FN} {A : ME} {L : MA} {σ : PSt} {h : PH} : rMth C m n F A L σ h = (A σ h).bind (meO1 C m n F L) := (rfl)
theorem o12 {C m : Str} {n : Nat} {F : FN} {L : MA} {a : Addr} {σ : PSt} {h : PH} : meO1 C m n F L (.val (.ref a)) σ h = meO2 C m n F L a σ h (h a) := (rfl)
theorem o13 {C D m : Str} {n : Nat} {F : FN} {L : MA} {a : Addr} {fs : List (Str × PV)} {σ : PSt} {h : PH} : meO2 C m n F L a σ h (some (.ins D fs)) = if D = C ∧ fs.lookup m = none then (L σ h).bind (meO3 n F a) else .stk := (rfl)
theorem o14 {n : Nat} {F : FN} {a : Addr} {es : List EV} {σ : PSt} {h : PH} : meO3 n F a es σ h = if es.length = n then (shLR es σ h).bind (meO4 F a) else .stk := (rfl)
theorem o15 {F : FN} {a : Addr} {ps : List PV} {σ : PSt} {h : PH} : meO4 F a ps σ h = lift (F (.ref a :: ps) h) σ := (rfl)
theorem o16 {C : Str} {n : Nat} {F : FN} {L : MA} {σ : PSt} {h : PH} : rNew C n F L σ h = (L σ h).bind (nwK C n F) := (rfl)
theorem o17 {C : Str} {n : Nat} {F : FN} {es : List EV} {σ : PSt} {h : PH} : nwK C n F es σ h = if es.length = n then (shLR es σ h).bind (nwK2 C F) else .stk := (rfl)
theorem o18 {C : Str} {F : FN} {ps : List PV} {σ : PSt} {h : PH} : nwK2 C F ps σ h = .new h fun p => nwK3 p σ (F (.ref p :: ps) (updP h p (.ins C []))) := (rfl)
theorem o19 {p : Addr} {σ : PSt} {h : PH} : nwK3 p σ (.ok (.val .non) h) = .ok (.val (.ref p)) σ h := (rfl)
theorem o20 {p : Addr} {x : PX} {σ : PSt} {h : PH} : nwK3 p σ (.ex x h) = .ex x σ h := (rfl)
theorem o21 {p : Addr} {σ : PSt} {h : PH} {k : Addr → Fs} : nwK3 p σ (.new h k) = .new h fun q => nwK3 p σ (k q) := (rfl)
/-! a new object in its place -/
theorem n1 : ∀ {α β : Type} {h : PH} {f : Addr → Rs α} {k : α → PSt → PH → Rs β}, (Rs.new h f).bind k = .new h fun p => (f p).bind k := fun {_ _ _ _ _} => (rfl)
theorem n2 : ∀ {α : Type} {h : PH} {f : Addr → Rs α}, (Rs.new h f).noex = .new h fun p => (f p).noex := fun {_ _ _} => (rfl)
theorem n3 : ∀ {α : Type} {h : PH} {f : Addr → Rs α} {k : α → PSt → PH → Ss}, bindS (Rs.new h f) k = .new h fun p => bindS (f p) k := fun {_ _ _ _} => (rfl)
theorem n4 {h : PH} {f : Addr → Ss} {k : MS} : (Ss.new h f).seq k = .new h fun p => (f p).seq k := (rfl)
theorem n5 {h : PH} {f : Addr → Ss} {k : MS} : (Ss.new h f).loop k = .new h fun p => (f p).loop k := (rfl)
theorem n6 {h : PH} {f : Addr → Ss} {k : PX → MS} : (Ss.new h f).catch k = .new h fun p => (f p).catch k := (rfl)
theorem n7 {h : PH} {f : Addr → Ss} {i : Nat} : (Ss.new h f).sui i = .new h fun p => (f p).sui i := (rfl)
theorem n8 {h : PH} {f : Addr → Ss} : (Ss.new h f).suiE = .new h fun p => (f p).suiE := (rfl)
theorem n9 {h : PH} {f : Addr → Ss} : toF (Ss.new h f) = .new h fun p => toF (f p) := (rfl)
theorem n10 {h : PH} {f : Addr → Fs} {σ : PSt} : lift (Fs.new h f) σ = .new h fun p => lift (f p) σ := (rfl)
theorem ok_new {h : PH} {f : Addr → Ss} (z : ∀ p, h p = none → OK (f p)) : OK (.new h f) := by
  rw [ok_def]
  intro p n
  have := z p n
  rw [ok_def] at this
  exact this
theorem upd_of_ne {h : PH} {a b : Addr} {o : PO} (e : a ≠ b) : updP h a o b = h b := updP_ne (Ne.symm e)
theorem upd_ne' {h : PH} {a b : Addr} {o : PO} (e : b ≠ a) : updP h a o b = h b := updP_ne e
/-- draws stand, whatever lies elsewhere -/
theorem DrH.upd {h : PH} {a b : Addr} {o : PO} (d : DrH h a) (e : h b = none) : DrH (updP h b o) a ∧ a ≠ b := by
  obtain ⟨ns, i, acc, st, ea, r⟩ := d
  have ne : a ≠ b := fun z => by rw [z, e] at ea; cases ea
  exact ⟨⟨ns, i, acc, st, by rw [updP_ne ne]; exact ea, r⟩, ne⟩
theorem DrH.upd' {h : PH} {a b : Addr} {o : PO} (d : DrH h a) (e : a ≠ b) : DrH (updP h b o) a := by
  obtain ⟨ns, i, acc, st, ea, r⟩ := d
  exact ⟨ns, i, acc, st, by rw [updP_ne e]; exact ea, r⟩
theorem FnM.blk {S : Sc} {C m : Str} {n : Nat} {sp : PSp} {sc : Scope} (G : FnM S C m n sp) : FnM (S.blk sc) C m n sp := ⟨G.ex, G.mono⟩
theorem FnM.sui {S : Sc} {C m : Str} {n : Nat} {sp : PSp} (G : FnM S C m n sp) : FnM S.sui C m n sp := ⟨G.ex, G.mono⟩
theorem FnI.blk {S : Sc} {C : Str} {n : Nat} {sp : PSp} {sc : Scope} (G : FnI S C n sp) : FnI (S.blk sc) C n sp := ⟨G.ex, G.mono⟩
theorem FnI.sui {S : Sc} {C : Str} {n : Nat} {sp : PSp} (G : FnI S C n sp) : FnI S.sui C n sp := ⟨G.ex, G.mono⟩
theorem fnM_of {P : Program} {w : World} {K : PySem.W.Frag} {mg : Str → Option Value} {base : Heap} {C m qual : Str} {st st' : Stmt} {f Ca : Addr} {fd : FuncData} {N N' ps : List Str} {k k' n : Nat} {sp : PSp} {T : WS} (F : Fun K m qual st f fd) (bi : Binds K fd ps []) (nC : PySem.W.nsIn K mainGlobals C = some (some (.ref Ca))) (cl : Cls K Ca) (mt : Meth K Ca m f) (fs : FnScope N ps (defScope st)) (hn : ps.length = n)
    (hb : JSs (.fn0 P w K mg base N st k) (defBody st) T) (hm : MonoF sp) (hsp : ∀ qs h Q E, sp qs h Q E → T (pdF Q E) (startP N qs) h) (hk : k + 1 ≤ k') : FnM (.fn0 P w K mg base N' st' k') C m n sp :=
  ⟨⟨Ca, f, fd, ps, k + 1, nC, cl, mt, bi, hk, fnOk_of F fs hn hb hsp⟩, hm⟩
theorem fnI_of {P : Program} {w : World} {K : PySem.W.Frag} {mg : Str → Option Value} {base : Heap} {C m qual : Str} {st st' : Stmt} {f Ca : Addr} {fd : FuncData} {N N' ps : List Str} {k k' n : Nat} {sp : PSp} {T : WS} (F : Fun K m qual st f fd) (bi : Binds K fd ps []) (gC : mg C = some (.ref Ca)) (nC : PySem.W.nsIn K mainGlobals C = some (some (.ref Ca))) (mk : Mk K Ca f) (fs : FnScope N ps (defScope st)) (hn : ps.length = n)
    (hb : JSs (.fn0 P w K mg base N st k) (defBody st) T) (hm : MonoF sp) (hsp : ∀ qs h Q E, sp qs h Q E → T (pdF Q E) (startP N qs) h) (hk : k + 2 ≤ k') : FnI (.fn0 P w K mg base N' st' k') C n sp :=
  ⟨⟨Ca, f, fd, ps, k + 1, gC, nC, mk, bi, hk, fnOk_of F fs hn hb hsp⟩, hm⟩
end PP
set_option Elab.async false
set_option linter.all false
set_option maxRecDepth 100000
set_option maxHeartbeats 2000000
namespace PP
open PySem PySem.Spec PyProof.Rows L2
def layKE : EV → PSt → PH → Rs EV
  | .own o, σ, h => .new h fun a => .ok (.val (.ref a)) σ (updP h a o)
  | .val p, σ, h => .ok (.val p) σ h
  | .bor i, σ, h => .ok (.bor i) σ h
def rLay (A : ME) : ME := fun σ h => (A σ h).bind layKE
def tLk (n : Nat) (U : MGs) (σ : PSt) (h : PH) : PV → Rs Unit
  | .lst xs => if xs.length = n then U xs σ h else .stk
  | _ => .stk
def tL (n : Nat) (U : MGs) : MG := fun p σ h => tLk n U σ h (vwp h p)
section
variable {S : Sc} {e tg : Expr} {A : ME} {n : Nat} {Gs : MGs} {ix : List Nat}
theorem x_lay (a : JE S e (wLay (up A))) : JE S e (up (rLay A)) := a.le up_mono fun σ h Q E q => wpm (wpb q) fun ev σ1 h1 q => by
  cases ev with
  | own o => exact q
  | val p => exact q
  | bor i => exact q
theorem x_gL (a : JG S tg ix (gL n (upGs Gs))) : JG S tg ix (upG (tL n Gs)) := a.le upG_mono fun p σ h Q q => by
  unfold upG tL at q
  cases e : vwp h p with
  | lst xs =>
    rw [e] at q
    unfold tLk at q
    dsimp only at q
    split at q
    · exact ⟨xs, e, by assumption, q⟩
    · exact q.elim
  | _ => rw [e] at q; exact q.elim
end
theorem y1 {A : ME} {σ : PSt} {h : PH} : rLay A σ h = (A σ h).bind layKE := (rfl)
theorem y2 {o : PO} {σ : PSt} {h : PH} : layKE (.own o) σ h = .new h fun a => .ok (.val (.ref a)) σ (updP h a o) := (rfl)
theorem y3 {p : PV} {σ : PSt} {h : PH} : layKE (.val p) σ h = .ok (.val p) σ h := (rfl)
theorem y4 {i : Nat} {σ : PSt} {h : PH} : layKE (.bor i) σ h = .ok (.bor i) σ h := (rfl)
theorem y5 {n : Nat} {U : MGs} {p : PV} {σ : PSt} {h : PH} : tL n U p σ h = tLk n U σ h (vwp h p) := (rfl)
theorem y6 {n : Nat} {U : MGs} {xs : List PV} {σ : PSt} {h : PH} : tLk n U σ h (.lst xs) = if xs.length = n then U xs σ h else .stk := (rfl)
end PP
set_option Elab.async false
set_option linter.all false
set_option maxRecDepth 100000
set_option maxHeartbeats 4000000
/-! zip and [::-1] in the evaluator -/
namespace PP
open PySem PySem.Spec PyProof.Rows L2
section
variable {K : PySem.W.Frag} {F : Addr → Prop} {H : Hp}
theorem RpL.rev : ∀ {ps : List PV} {vs : List V}, RpL K H F ps vs → RpL K H F ps.reverse vs.reverse
  | _, _, .nil => .nil
  | _, _, .cons a b => by
    rw [List.reverse_cons, List.reverse_cons]
    exact (RpL.rev b).append (.cons a .nil)
end
def pRev (x : PV) (Q : EV → Prop) : Prop := match x with
  | .lst xs => Q (.own (.lst xs.reverse))
  | .rdl xs => Q (.own (.lst xs.reverse))
  | .tup xs => Q (.val (.tup xs.reverse))
  | _ => False
def wRev (T : WE) : WE := fun σ h Q E => T σ h (fun e σ1 h1 => pRev (vw σ1 h1 (pend e)) fun r => Q r σ1 h1) E
theorem pRev_mono {x : PV} {Q Q' : EV → Prop} (i : ∀ e, Q e → Q' e) (q : pRev x Q) : pRev x Q' := by
  cases x <;> first | exact i _ q | exact q
section
variable {S : Sc} {Ta : WE} {a : Expr} {p1 p2 p3 pos : Pos} {k : Nat}
theorem je_rev (ha : JE S a Ta) : JE S (.Subscript a (.Slice none none (some (.UnaryOp .USub (.Constant (.int 1) k p1) p2)) p3) pos) (wRev Ta) where
  mono := fun σ h Q Q' E E' i j q => ha.mono _ _ _ _ _ _ (fun e σ h q => pRev_mono (fun e q => i _ _ _ q) q) j q
  run := fun X W A tk => by
    refine pe_weak (pe_revK (ha.run X W A tk)) fun σ H Q q => ?_
    obtain ⟨F, σp, h, s, q⟩ := q
    refine ⟨F, σp, h, s, ha.mono _ _ _ _ _ _ (fun ea σ1 h1 q1 F1 H1 x f1 r1 => ?_) (fun _ _ _ z => z) q⟩
    have s3 := r1.sm
    have rx := r1.re.rt s3
    generalize vw σ1 h1 (pend ea) = px at q1 rx
    cases px with
    | lst xs =>
      obtain ⟨a, vs, rfl, z, r⟩ := rx.lst
      exact ⟨a, vs, false, rfl, .inl (.inl z), fun p n => q1 F1 _ _ (f1.trans (.new n)) ((RS.new (o := .lst xs.reverse) s3 n ⟨_, rfl, r.rev⟩ rfl).early f1.dm)⟩
    | rdl xs =>
      obtain ⟨a, vs, rfl, z, r⟩ := rx.rdl
      exact ⟨a, vs, false, rfl, z, fun p n => q1 F1 _ _ (f1.trans (.new n)) ((RS.new (o := .lst xs.reverse) s3 n ⟨_, rfl, r.rev⟩ rfl).early f1.dm)⟩
    | tup xs =>
      obtain ⟨a, vs, rfl, z, r⟩ := rx.tup
      exact ⟨a, vs, true, rfl, z, fun p n => q1 F1 _ _ (f1.trans (.new n)) (rsv (s3.new n) (Rp.newTup s3 n r.rev))⟩
    | _ => exact q1.elim
end
def gRev : PV → Option EV
  | .lst xs => some (.own (.lst xs.reverse))
  | .rdl xs => some (.own (.lst xs.reverse))
  | .tup xs => some (.val (.tup xs.reverse))
  | _ => none
def rvK1 : EV → PSt → PH → Rs EV := fun e σ h => og (gRev (vw σ h (pend e))) σ h
def rRev (A : ME) : ME := fun σ h => (A σ h).bind rvK1
def znK2 : List PV → PSt → PH → Rs (List PV)
  | [p, q], σ, h => og ((seqOf p).bind fun xs => (seqOf q).map (zipP xs)) σ h
  | _, _, _ => .stk
def znK1 : List EV → PSt → PH → Rs (List PV) := fun es σ h => (shLR es σ h).bind znK2
def rZip (A : MA) : MI := fun σ h => (A σ h).bind znK1
section
variable {S : Sc} {e : Expr} {A : ME} {L : MA}
theorem x_rev (a : JE S e (wRev (up A))) : JE S e (up (rRev A)) := a.le up_mono fun σ h Q E q => wpm (wpb q) fun ea σ1 h1 q => by
  obtain ⟨r, er, q⟩ := wp_og q
  revert er
  generalize vw σ1 h1 (pend ea) = px
  intro er
  cases px <;> first | (cases er; exact q) | cases er
theorem x_zip {tg : Expr} (a : JI S tg e (wZip (up L))) : JI S tg e (up (rZip L)) := a.le up_mono fun σ h Q E q => wpm (wpb q) fun ea σ1 h1 q => wp_shLR (wpm (wpb q) fun ps σ2 h2 q => by
  unfold znK2 at q
  split at q
  · obtain ⟨r, er, q⟩ := wp_og q
    rename_i pp qq _
    cases hs : seqOf pp with
    | none => rw [hs] at er; cases er
    | some xs =>
      cases ht : seqOf qq with
      | none => rw [hs, ht] at er; cases er
      | some ys => rw [hs, ht] at er; cases er; exact ⟨_, _, _, _, rfl, hs, ht, q⟩
  · exact q.elim)
end
theorem zz1 {A : ME} {σ : PSt} {h : PH} : rRev A σ h = (A σ h).bind rvK1 := (rfl)
theorem zz2 {e : EV} {σ : PSt} {h : PH} : rvK1 e σ h = og (gRev (vw σ h (pend e))) σ h := (rfl)
theorem zz3 {xs : List PV} : gRev (.lst xs) = some (.own (.lst xs.reverse)) := (rfl)
theorem zz4 {xs : List PV} : gRev (.tup xs) = some (.val (.tup xs.reverse)) := (rfl)
theorem zz5 {σ : PSt} {h : PH} {L : MA} : rZip L σ h = (L σ h).bind znK1 := (rfl)
theorem zz6 {σ : PSt} {h : PH} {es : List EV} : znK1 es σ h = (shLR es σ h).bind znK2 := (rfl)
theorem zz7 {σ : PSt} {h : PH} {p q : PV} : znK2 [p, q] σ h = og ((seqOf p).bind fun xs => (seqOf q).map (zipP xs)) σ h := (rfl)
theorem zz8 {xs : List PV} : gRev (.rdl xs) = some (.own (.lst xs.reverse)) := (rfl)
end PP
namespace PP
open PySem PySem.Spec PyProof.Rows L2
/-! ### t1 = t2 = e -/
def sAsg2 (T : WE) (G1 G2 : WG) : WS := fun D σ h => T σ h (fun e σ1 h1 => share e σ1 h1 fun p σ2 h2 => G1 p σ2 h2 fun σ3 h3 => G2 p σ3 h3 D.nx) D.ex
theorem js_asg2 {S : Sc} {t1 t2 e : Expr} {pos : Pos} {T : WE} {G1 G2 : WG} {ix1 ix2 : List Nat} (he : JE S e T) (hg1 : JG S t1 ix1 G1) (hg2 : JG S t2 ix2 G2) (hw : ∀ env, env.scope = S.sc → swappedStores [t1, t2] e env = pure none := by intro _ _; rfl)
    (h1 : ∀ env, (assignEach [t1, t2] env).map (·.2) = [assign t1 env, assign t2 env] := by intro _; rfl) : JS S (.Assign [t1, t2] e pos) (sAsg2 T G1 G2) where
  mono := fun D D' σ h l q => he.mono _ _ _ _ _ _ (fun _ _ _ q => share_mono (fun _ _ _ q => hg1.mono _ _ _ _ _ (fun _ _ q => hg2.mono _ _ _ _ _ l.nx q) q) q) l.ex q
  run := fun X W A tk hp => by
    refine ps_weak (ps_asg2 (he.run X W A tk) (hg1.run X A) (hg2.run X A) (h1 _) (hw _ A.sc)) fun D σ H q => ?_
    obtain ⟨F, σp, h, s, q⟩ := q
    refine ⟨F, σp, h, s, he.mono _ _ _ _ _ _ (fun ev σ1 h1 q1 F1 H1 v f1 r1 => ?_) (fun _ _ _ z => ex_of z) q⟩
    have q1 : share (pend ev) σ1 h1 (fun p σ2 h2 => G1 p σ2 h2 fun σ3 h3 => G2 p σ3 h3 (pd X.K X.mg F H D W).nx) := by cases ev <;> exact q1
    obtain ⟨F2, p, σ2, h2, s2, rp, q2, k2, f2⟩ := share_ok r1.sm r1.re q1
    exact ⟨F2, σ2, h2, p, s2, rp, hg1.mono _ _ _ _ _ (fun σ3 h3 q3 F3 H3 σ' f3 s3 _ _ => ⟨F3, σ3, h3, p, s3, rp.keep f3.keep, hg2.mono _ _ _ _ _ (fun σ4 h4 q4 F4 H4 σ'' f4 s4 _ _ => q4 F4 H4 σ'' (((f1.trans f2).trans f3).trans f4) s4) q3⟩) q2⟩
def asg2K3 (G2 : MG) (p : PV) : Unit → PSt → PH → Ss := fun _ σ h => asgK2 G2 p σ h
def asg2K2 (G1 G2 : MG) : PV → PSt → PH → Ss := fun p σ h => bindS (G1 p σ h).noex (asg2K3 G2 p)
def asg2K1 (G1 G2 : MG) : EV → PSt → PH → Ss := fun e σ h => bindS (shR e σ h) (asg2K2 G1 G2)
def mAsg2 (A : ME) (G1 G2 : MG) : MS := fun σ h => bindS (A σ h) (asg2K1 G1 G2)
theorem y_asg2 {S : Sc} {st : Stmt} {a : ME} {G1 G2 : MG} (z : JS S st (sAsg2 (up a) (upG G1) (upG G2))) : JS S st (upS (mAsg2 a G1 G2)) :=
  z.le upS_mono fun D σ h q => wpm (ws q) fun es σ1 h1 q => wp_shR (E := D.ex) (wpm (ws q) fun p σ2 h2 q => wp_noex (wpm (ws q) fun _ σ3 h3 q => wp_noex (wpm (ws q) fun _ _ _ q => q)))
theorem zz9 {σ : PSt} {h : PH} {A : ME} {G1 G2 : MG} : mAsg2 A G1 G2 σ h = bindS (A σ h) (asg2K1 G1 G2) := (rfl)
theorem zz10 {σ : PSt} {h : PH} {G1 G2 : MG} {e : EV} : asg2K1 G1 G2 e σ h = bindS (shR e σ h) (asg2K2 G1 G2) := (rfl)
theorem zz11 {σ : PSt} {h : PH} {G1 G2 : MG} {p : PV} : asg2K2 G1 G2 p σ h = bindS (G1 p σ h).noex (asg2K3 G2 p) := (rfl)
theorem zz12 {σ : PSt} {h : PH} {G2 : MG} {p : PV} {u : Unit} : asg2K3 G2 p u σ h = asgK2 G2 p σ h := (rfl)
theorem js_setC {S : Sc} {x : Str} {pos : Pos} {e : Expr} {Te : WE} (i : Nat) {pos' : Pos} (he : JE S e Te) (hN : S.N[i]? = some x := by rfl) (hx : Loc S.sc x := by first | exact Or.inl rfl | exact Or.inr rfl) (hf : fnOk S x := by first | exact Or.inl rfl | exact Or.inr rfl) (hs : ∀ env, env.scope = S.sc → swapsWith e (some (.Name x pos')) pos.line env = pure false := by intro env he; unfold swapsWith Env.kindOf Env.blockKind; rw [he]; rfl) : JS S (.Assign [.Name x pos'] e pos) (sSet i Te) where
  mono := fun D D' σ h l q => he.mono _ _ _ _ _ _ (fun _ _ _ q => putE_mono l.nx q) l.ex q
  run := fun X W A tk hp => by
    refine ps_weak (ps_set (i := i) A.nd (by rw [A.N]; exact hN) (loc_of A hx) (he.run X W A tk) (hs _ A.sc) (hf.imp (A.fn x) fun z => by rw [A.sc]; exact z)) fun D σ H q => ?_
    obtain ⟨F, σp, h, s, q⟩ := q
    refine ⟨F, σp, h, s, he.mono _ _ _ _ _ _ (fun ev σ1 h1 q1 F1 H1 v f1 r1 => ?_) (fun _ _ _ z => ex_of z) q⟩
    obtain ⟨F2, σ2, h2, f2, s2, q2⟩ := putE_ok s f1 r1 q1
    exact q2 F2 H1 _ f2 s2
end PP
set_option Elab.async false
set_option linter.all false
set_option maxRecDepth 100000
set_option maxHeartbeats 4000000
namespace PP
open PySem PySem.Spec PyProof.Rows L2
/-! ### comprehensions of two clauses -/
def l2K3 (G1 : MG) (C1 : MT) (A : ME) (vs1 : List Nat) (acc : List PV) : List PV → PSt → PH → Rs (List PV) := fun items σ h => lcR G1 C1 A vs1 items acc (wipeP σ vs1) h
def l2K2 (I1 : MI) (G1 : MG) (C1 : MT) (A : ME) (vs1 : List Nat) (acc : List PV) : Bool → PSt → PH → Rs (List PV) := fun b σ h => if b = true then (I1 σ h).bind (l2K3 G1 C1 A vs1 acc) else .ok acc σ h
def l2K1 (C : MT) (I1 : MI) (G1 : MG) (C1 : MT) (A : ME) (vs1 : List Nat) (acc : List PV) : Unit → PSt → PH → Rs (List PV) := fun _ σ h => (C σ h).bind (l2K2 I1 G1 C1 A vs1 acc)
def l2E (G : MG) (C : MT) (I1 : MI) (G1 : MG) (C1 : MT) (A : ME) (vs1 : List Nat) (x : PV) (acc : List PV) : PSt → PH → Rs (List PV) := fun σ h => (G x σ h).bind (l2K1 C I1 G1 C1 A vs1 acc)
def l2R (G : MG) (C : MT) (I1 : MI) (G1 : MG) (C1 : MT) (A : ME) (vs vs1 : List Nat) : List PV → List PV → PSt → PH → Rs (List PV)
  | [], acc, σ, h => .ok acc σ h
  | x :: xs, acc, σ, h => (l2E G C I1 G1 C1 A vs1 x acc σ h).noex.bind fun acc' σ' h' => l2R G C I1 G1 C1 A vs vs1 xs acc' (wipeP σ' vs) h'
@[irreducible] def l2I (G : MG) (C : MT) (I1 : MI) (G1 : MG) (C1 : MT) (A : ME) (vs vs1 : List Nat) (xs acc : List PV) : PSt → PH → Rs (List PV) := l2R G C I1 G1 C1 A vs vs1 xs acc
def l2K (G : MG) (C : MT) (I1 : MI) (G1 : MG) (C1 : MT) (A : ME) (vs vs1 : List Nat) (xs : List PV) : List PV → PSt → PH → Rs (List PV) := fun acc σ h => l2I G C I1 G1 C1 A vs vs1 xs acc (wipeP σ vs) h
def l2W (G : MG) (C : MT) (I1 : MI) (G1 : MG) (C1 : MT) (A : ME) (vs vs1 : List Nat) : List PV → PSt → PH → Rs EV := fun items σ h => (l2I G C I1 G1 C1 A vs vs1 items [] (wipeP σ vs) h).bind (lcK2 σ vs)
def rLc2 (I : MI) (G : MG) (C : MT) (I1 : MI) (G1 : MG) (C1 : MT) (A : ME) (vs vs1 : List Nat) : ME := fun σ h => (I σ h).bind (l2W G C I1 G1 C1 A vs vs1)
theorem l2_nil {G : MG} {C : MT} {I1 : MI} {G1 : MG} {C1 : MT} {A : ME} {vs vs1 : List Nat} {acc : List PV} {σ : PSt} {h : PH} : l2I G C I1 G1 C1 A vs vs1 [] acc σ h = .ok acc σ h := by unfold l2I; rfl
theorem l2_cons {G : MG} {C : MT} {I1 : MI} {G1 : MG} {C1 : MT} {A : ME} {vs vs1 : List Nat} {x : PV} {xs acc : List PV} {σ : PSt} {h : PH} : l2I G C I1 G1 C1 A vs vs1 (x :: xs) acc σ h = (l2E G C I1 G1 C1 A vs1 x acc σ h).noex.bind (l2K G C I1 G1 C1 A vs vs1 xs) := by unfold l2K l2I; rfl
theorem l2K_eq {G : MG} {C : MT} {I1 : MI} {G1 : MG} {C1 : MT} {A : ME} {vs vs1 : List Nat} {xs acc : List PV} {σ : PSt} {h : PH} : l2K G C I1 G1 C1 A vs vs1 xs acc σ h = l2I G C I1 G1 C1 A vs vs1 xs acc (wipeP σ vs) h := (rfl)
theorem dd1 {I : MI} {G : MG} {C : MT} {I1 : MI} {G1 : MG} {C1 : MT} {A : ME} {vs vs1 : List Nat} {σ : PSt} {h : PH} : rLc2 I G C I1 G1 C1 A vs vs1 σ h = (I σ h).bind (l2W G C I1 G1 C1 A vs vs1) := (rfl)
theorem dd2 {G : MG} {C : MT} {I1 : MI} {G1 : MG} {C1 : MT} {A : ME} {vs vs1 : List Nat} {items : List PV} {σ : PSt} {h : PH} : l2W G C I1 G1 C1 A vs vs1 items σ h = (l2I G C I1 G1 C1 A vs vs1 items [] (wipeP σ vs) h).bind (lcK2 σ vs) := (rfl)
theorem dd3 {G : MG} {C : MT} {I1 : MI} {G1 : MG} {C1 : MT} {A : ME} {vs1 : List Nat} {x : PV} {acc : List PV} {σ : PSt} {h : PH} : l2E G C I1 G1 C1 A vs1 x acc σ h = (G x σ h).bind (l2K1 C I1 G1 C1 A vs1 acc) := (rfl)
theorem dd4 {C : MT} {I1 : MI} {G1 : MG} {C1 : MT} {A : ME} {vs1 : List Nat} {acc : List PV} {u : Unit} {σ : PSt} {h : PH} : l2K1 C I1 G1 C1 A vs1 acc u σ h = (C σ h).bind (l2K2 I1 G1 C1 A vs1 acc) := (rfl)
theorem dd5 {I1 : MI} {G1 : MG} {C1 : MT} {A : ME} {vs1 : List Nat} {acc : List PV} {σ : PSt} {h : PH} : l2K2 I1 G1 C1 A vs1 acc true σ h = (I1 σ h).bind (l2K3 G1 C1 A vs1 acc) := (rfl)
theorem dd6 {I1 : MI} {G1 : MG} {C1 : MT} {A : ME} {vs1 : List Nat} {acc : List PV} {σ : PSt} {h : PH} : l2K2 I1 G1 C1 A vs1 acc false σ h = .ok acc σ h := (rfl)
theorem dd7 {I1 : MI} {G1 : MG} {C1 : MT} {A : ME} {vs1 : List Nat} {acc : List PV} {b : Bool} {σ : PSt} {h : PH} : l2K2 I1 G1 C1 A vs1 acc b σ h = if b = true then (I1 σ h).bind (l2K3 G1 C1 A vs1 acc) else .ok acc σ h := (rfl)
theorem dd8 {G1 : MG} {C1 : MT} {A : ME} {vs1 : List Nat} {acc items : List PV} {σ : PSt} {h : PH} : l2K3 G1 C1 A vs1 acc items σ h = lcI G1 C1 A vs1 items acc (wipeP σ vs1) h := by unfold lcI; rfl
section
variable {S : Sc} {e : Expr} {G G1 : MG} {U U1 : MT} {A : ME} {I I1 : MI} {vs vs1 : List Nat} {E : EPost}
theorem wp_l2R : ∀ {items acc : List PV} {σ : PSt} {h : PH} {N : List PV → PSt → PH → Prop}, wp (l2R G U I1 G1 U1 A vs vs1 items acc σ h) N E → goG (upG G) (up U) (ebI (up I1) (upG G1) (up U1) (ebL (up A)) vs1) vs items acc σ h N
  | [], _, _, _, _, q => q
  | x :: xs, acc, σ, h, N, q => by
    have q : wp ((l2E G U I1 G1 U1 A vs1 x acc σ h).noex.bind fun acc' σ' h' => l2R G U I1 G1 U1 A vs vs1 xs acc' (wipeP σ' vs) h') N E := q
    have q := wp_noex (E' := fun _ _ _ => False) (wpb q)
    refine wpm (wpb q) fun _ σ1 h1 q => wpm (wpb q) fun b σ2 h2 q => ?_
    cases b with
    | false => exact wp_l2R q
    | true =>
      refine wpm (wpb q) fun its σ3 h3 q => ?_
      have q := wp_lcR (E := fun _ _ _ => False) q
      rw [lcGo_goG] at q
      exact goG_mono upG_mono up_mono (ebL_mono up_mono) (fun a σ h q => wp_l2R q) q
theorem x_lc2 (a : JE S e (wLc2 (up I) (upG G) (up U) (up I1) (upG G1) (up U1) (up A) vs vs1)) : JE S e (up (rLc2 I G U I1 G1 U1 A vs vs1)) := a.le up_mono fun σ h Q E q => wpm (wpb q) fun items σ1 h1 q => wp_l2R (E := E) (by
    have q : wp ((l2I G U I1 G1 U1 A vs vs1 items [] (wipeP σ1 vs) h1).bind (lcK2 σ1 vs)) Q E := q
    unfold l2I at q
    exact wpm (wpb q) fun ys σ2 h2 q => q)
end
/-! ### extend -/
def gExtend : List PV → List PV → (PV → List PV → Prop) → Prop := fun xs ps Q => ∃ ys, ps = [.lst ys] ∧ xs.length + ys.length ≤ sizeLine ∧ Q .non (xs ++ ys)
theorem lm_extend {S : Sc} : LstM S "extend" "list.extend" gExtend where
  slot := PySem.F.slot_list_extend
  hty := PySem.F.type_list_extend
  mono := fun xs ps Q Q' i ⟨y, a, b, q⟩ => ⟨y, a, b, i _ _ q⟩
  run := fun X A => ⟨_, mt_extend, fun F H l xs ps xv vs Q QV e rx rp ⟨ys, e1, hl, q⟩ k => by
    subst e1
    cases rp with
    | cons ry rn =>
      cases rn
      obtain ⟨a, us, rfl, eb, r⟩ := RT.lst (.inl ry)
      exact ⟨l, a, xv, us, rfl, rfl, e, eb, by rw [← rx.length, ← r.length]; exact hl, k _ _ _ _ q .non (rx.append r)⟩⟩
def gExt : GM := fun xs ps => match ps with
  | [.lst ys] => if xs.length + ys.length ≤ sizeLine then some (.non, xs ++ ys) else none
  | _ => none
theorem m_extend {S : Sc} : LstM S "extend" "list.extend" (gMP gExt) := lm_extend.to fun xs ps Q r ys e q => by
  unfold gExt at e
  split at e
  · split at e
    · cases e; exact ⟨_, rfl, by assumption, q⟩
    · cases e
  · cases e
theorem dd9 {xs ys : List PV} : gExt xs [.lst ys] = if xs.length + ys.length ≤ sizeLine then some (.non, xs ++ ys) else none := (rfl)
/-! ### sorted({key: True for ..}) -/
def kyK : EV → PSt → PH → Rs EV
  | .val (.int i), σ, h => .ok (.val (.int i)) σ h
  | .val (.str z), σ, h => .ok (.val (.str z)) σ h
  | _, _, _ => .stk
def rKey (A : ME) : ME := fun σ h => (A σ h).bind kyK
def sdK2 (σ1 : PSt) (vs : List Nat) : List PV → PSt → PH → Rs EV := fun ys σ h => match sortK ys with
  | some out => .ok (.own (.lst out)) (backP σ1 σ vs) h
  | none => .stk
def sdK1 (G : MG) (C : MT) (A : ME) (vs : List Nat) : List PV → PSt → PH → Rs EV := fun items σ h => (lcI G C (rKey A) vs items [] (wipeP σ vs) h).bind (sdK2 σ vs)
def rSdc (I : MI) (G : MG) (C : MT) (A : ME) (vs : List Nat) : ME := fun σ h => (I σ h).bind (sdK1 G C A vs)
theorem dd10 {I : MI} {G : MG} {C : MT} {A : ME} {vs : List Nat} {σ : PSt} {h : PH} : rSdc I G C A vs σ h = (I σ h).bind (sdK1 G C A vs) := (rfl)
theorem dd11 {G : MG} {C : MT} {A : ME} {vs : List Nat} {items : List PV} {σ : PSt} {h : PH} : sdK1 G C A vs items σ h = (lcI G C (rKey A) vs items [] (wipeP σ vs) h).bind (sdK2 σ vs) := (rfl)
theorem dd12 {A : ME} {σ : PSt} {h : PH} : rKey A σ h = (A σ h).bind kyK := (rfl)
theorem dd13 {i : Int} {σ : PSt} {h : PH} : kyK (.val (.int i)) σ h = .ok (.val (.int i)) σ h := (rfl)
theorem dd14 {z : Str} {σ : PSt} {h : PH} : kyK (.val (.str z)) σ h = .ok (.val (.str z)) σ h := (rfl)
theorem sd_some {σ1 σ : PSt} {vs : List Nat} {ys out : List PV} {h : PH} (e : sortK ys = some out) : sdK2 σ1 vs ys σ h = .ok (.own (.lst out)) (backP σ1 σ vs) h := by unfold sdK2; rw [e]
theorem goG_le {tgt : WG} {cond : WT} {EB EB' : EBT} {vs : List Nat} (m1 : ∀ p σ h Q Q', (∀ σ h, Q σ h → Q' σ h) → tgt p σ h Q → tgt p σ h Q') (m2 : Mono cond) (mE : ∀ acc σ h N N', (∀ a σ h, N a σ h → N' a σ h) → EB acc σ h N → EB acc σ h N') (le : ∀ acc σ h N, EB acc σ h N → EB' acc σ h N) :
    ∀ {xs acc : List PV} {σ : PSt} {h : PH} {Q : List PV → PSt → PH → Prop}, goG tgt cond EB vs xs acc σ h Q → goG tgt cond EB' vs xs acc σ h Q
  | [], acc, σ, h, Q, q => q
  | x :: xs, acc, σ, h, Q, q => m1 _ _ _ _ _ (fun σ1 h1 q => m2 _ _ _ _ _ _ (fun b σ2 h2 q => by
      cases b with
      | true => exact le _ _ _ _ (mE _ _ _ _ _ (fun a σ h q => goG_le m1 m2 mE le q) q)
      | false => exact goG_le m1 m2 mE le q) (fun _ _ _ z => z) q) q
section
variable {S : Sc} {e : Expr} {G : MG} {U : MT} {A : ME} {I : MI} {vs : List Nat}
theorem key_le {A : ME} {σ : PSt} {h : PH} {Q : EV → PSt → PH → Prop} {E : EPost} (q : up (rKey A) σ h Q E) : wKe (up A) σ h Q E := wpm (wpb q) fun e σ1 h1 q => by
  cases e with
  | val p => cases p with
    | int i => exact ⟨⟨.inl i, rfl⟩, q⟩
    | str z => exact ⟨⟨.inr z, rfl⟩, q⟩
    | _ => exact q.elim
  | _ => exact q.elim
theorem x_sdc (a : JE S e (wSdc (up I) (upG G) (up U) (up A) vs)) : JE S e (up (rSdc I G U A vs)) := a.le up_mono fun σ h Q E q => wpm (wpb q) fun items σ1 h1 q => by
  have q : wp ((lcI G U (rKey A) vs items [] (wipeP σ1 vs) h1).bind (sdK2 σ1 vs)) Q E := q
  unfold lcI at q
  have q := wp_lcR (wpb q)
  rw [lcGo_goG] at q
  refine goG_mono upG_mono up_mono (ebL_mono (wKe_mono up_mono)) (fun ys σ2 h2 q => ?_) (goG_le upG_mono up_mono (ebL_mono up_mono) (fun acc σ h N q => key_le q) q)
  have q : wp (sdK2 σ1 vs ys σ2 h2) Q E := q
  unfold sdK2 at q
  split at q
  · rename_i out eo
    exact ⟨out, eo, q⟩
  · exact q.elim
end
section
variable {S : Sc} {st : Stmt} {G G1 : MG} {U U1 : MT} {A : ME} {I I1 : MI} {vs vs1 : List Nat} {i : Nat}
theorem y_lc2 (a : JS S st (sSet i (wLc2 (up I) (upG G) (up U) (up I1) (upG G1) (up U1) (up A) vs vs1))) : JS S st (sSet i (up (rLc2 I G U I1 G1 U1 A vs vs1))) where
  mono := fun D D' σ h l q => wp_mono (fun e σ h q => by
    cases e with
    | own o => exact l.nx _ _ q
    | val p => exact l.nx _ _ q
    | bor j =>
      have q : share (.bor j) σ h (fun p σ1 h1 => D.nx (σ1.set i (some (.val p))) h1) := q
      exact share_mono (Q' := fun p σ1 h1 => D'.nx (σ1.set i (some (.val p))) h1) (fun p σ h q => l.nx _ _ q) q) (fun _ _ _ z => l.ex _ _ _ z) q
  run := fun X W At tk hp => ps_weak (a.run X W At tk hp) fun D σ H ⟨F, σp, h, s, q⟩ => ⟨F, σp, h, s, wpm (wpb q) fun items σ1 h1 q => by
    have q : wp ((l2I G U I1 G1 U1 A vs vs1 items [] (wipeP σ1 vs) h1).bind (lcK2 σ1 vs)) _ _ := q
    unfold l2I at q
    exact wp_l2R (wpm (wpb q) fun ys σ2 h2 q => q)⟩
end
/-! ### len({key: True for ..}) -/
def ldK2 (σ1 : PSt) (vs : List Nat) : List PV → PSt → PH → Rs EV := fun ys σ h => match lenK ys with
  | some n => .ok (.val (.int (n : Nat))) (backP σ1 σ vs) h
  | none => .stk
def ldK1 (G : MG) (C : MT) (A : ME) (vs : List Nat) : List PV → PSt → PH → Rs EV := fun items σ h => (lcI G C (rKey A) vs items [] (wipeP σ vs) h).bind (ldK2 σ vs)
def rLdc (I : MI) (G : MG) (C : MT) (A : ME) (vs : List Nat) : ME := fun σ h => (I σ h).bind (ldK1 G C A vs)
theorem dd15 {I : MI} {G : MG} {C : MT} {A : ME} {vs : List Nat} {σ : PSt} {h : PH} : rLdc I G C A vs σ h = (I σ h).bind (ldK1 G C A vs) := (rfl)
theorem dd16 {G : MG} {C : MT} {A : ME} {vs : List Nat} {items : List PV} {σ : PSt} {h : PH} : ldK1 G C A vs items σ h = (lcI G C (rKey A) vs items [] (wipeP σ vs) h).bind (ldK2 σ vs) := (rfl)
theorem ld_some {σ1 σ : PSt} {vs : List Nat} {ys : List PV} {n : Nat} {h : PH} (e : lenK ys = some n) : ldK2 σ1 vs ys σ h = .ok (.val (.int (n : Nat))) (backP σ1 σ vs) h := by unfold ldK2; rw [e]
section
variable {S : Sc} {e : Expr} {G : MG} {U : MT} {A : ME} {I : MI} {vs : List Nat}
theorem x_ldc (a : JE S e (wLdc (up I) (upG G) (up U) (up A) vs)) : JE S e (up (rLdc I G U A vs)) := a.le up_mono fun σ h Q E q => wpm (wpb q) fun items σ1 h1 q => by
  have q : wp ((lcI G U (rKey A) vs items [] (wipeP σ1 vs) h1).bind (ldK2 σ1 vs)) Q E := q
  unfold lcI at q
  have q := wp_lcR (wpb q)
  rw [lcGo_goG] at q
  refine goG_mono upG_mono up_mono (ebL_mono (wKe_mono up_mono)) (fun ys σ2 h2 q => ?_) (goG_le upG_mono up_mono (ebL_mono up_mono) (fun acc σ h N q => key_le q) q)
  have q : wp (ldK2 σ1 vs ys σ2 h2) Q E := q
  unfold ldK2 at q
  split at q
  · rename_i out eo
    exact ⟨out, eo, q⟩
  · exact q.elim
end
end PP
set_option Elab.async false
set_option linter.all false
set_option maxRecDepth 100000
set_option maxHeartbeats 4000000
namespace PP
open PySem PySem.Spec PyProof.Rows L2
/-! ### x in a list of data -/
def inD (x y : PV) : Option Bool := match dat x, dat y with
  | some d, some (.list ds) => if SeqAt.shaped d && SeqAt.shaped (.list ds) then some (ds.any fun z => PyData.eqv z d) else none
  | _, _ => none
def pInD (n : Bool) : P2 := fun x y Q => ∃ b, inD x y = some b ∧ Q (.val (.bl (if n then !b else b)))
theorem pInD_mono {n : Bool} : ∀ x y Q Q', (∀ e, Q e → Q' e) → pInD n x y Q → pInD n x y Q' := fun x y Q Q' i ⟨b, e, q⟩ => ⟨b, e, i _ q⟩
theorem inD_cases {K : PySem.W.Frag} {H : Hp} {F : Addr → Prop} {x y : PV} {v u : V} {b : Bool} (e : inD x y = some b) (rx : RT K H F x v) (ry : RT K H F y u) :
    ∃ d ds, Dp K H v d ∧ Dp K H u (.list ds) ∧ SeqAt.shaped d = true ∧ SeqAt.shaped (.list ds) = true ∧ (ds.any fun z => PyData.eqv z d) = b := by
  unfold inD at e
  split at e
  · rename_i d ds e1 e2
    split at e
    · rename_i s
      rw [Bool.and_eq_true] at s
      cases e
      exact ⟨d, ds, rx.dp e1, ry.dp e2, s.1, s.2, rfl⟩
    · cases e
  · cases e
section
variable {S : Sc}
theorem s_inD : OpS S (compareOp .In) (pInD false) where
  mono := pInD_mono
  run := fun X A => ⟨_, op_inD (by have := A.units; omega), fun F σp h σ H px py x y Q s rx ry ⟨b, e, q⟩ QV k => by
    obtain ⟨d, ds, a1, a2, a3, a4, a5⟩ := inD_cases e rx ry
    exact ⟨d, ds, a1, a2, a3, a4, by rw [a5]; exact k F H (.val (.bl b)) _ .refl (rsv s (.bl b)) q⟩⟩
theorem s_notInD : OpS S (compareOp .NotIn) (pInD true) where
  mono := pInD_mono
  run := fun X A => ⟨_, op_notInD (by have := A.units; omega), fun F σp h σ H px py x y Q s rx ry ⟨b, e, q⟩ QV k => by
    obtain ⟨d, ds, a1, a2, a3, a4, a5⟩ := inD_cases e rx ry
    exact ⟨d, ds, a1, a2, a3, a4, by rw [a5]; exact k F H (.val (.bl (!b))) _ .refl (rsv s (.bl _)) q⟩⟩
def gInX : G2 := fun x y => match pInB x y with
  | some b => vB b
  | none => match inD x y with
    | some b => vB b
    | none => none
def gNinX : G2 := fun x y => match pInB x y with
  | some b => vB (!b)
  | none => match inD x y with
    | some b => vB (!b)
    | none => none
theorem z_inX : OpS S (compareOp .In) (gP gInX) := (s_in.or s_inD).to gP_mono fun x y Q ⟨r, e, q⟩ => by
  unfold gInX vB at e
  split at e
  · rename_i b eb; cases e; exact .inl ⟨b, eb, q⟩
  · split at e
    · rename_i b eb; cases e; exact .inr ⟨b, eb, q⟩
    · cases e
theorem z_ninX : OpS S (compareOp .NotIn) (gP gNinX) := (s_notIn.or s_notInD).to gP_mono fun x y Q ⟨r, e, q⟩ => by
  unfold gNinX vB at e
  split at e
  · rename_i b eb; cases e; exact .inl ⟨b, eb, q⟩
  · split at e
    · rename_i b eb; cases e; exact .inr ⟨b, eb, q⟩
    · cases e
theorem gInX_b {x y : PV} {b : Bool} (e : pInB x y = some b) : gInX x y = some (.val (.bl b)) := by unfold gInX; rw [e]; rfl
theorem gInX_d {x y : PV} {b : Bool} (n : pInB x y = none) (e : inD x y = some b) : gInX x y = some (.val (.bl b)) := by unfold gInX; rw [n]; show (match inD x y with | some b => vB b | none => none) = _; rw [e]; rfl
theorem gNinX_b {x y : PV} {b : Bool} (e : pInB x y = some b) : gNinX x y = some (.val (.bl (!b))) := by unfold gNinX; rw [e]; rfl
theorem gNinX_d {x y : PV} {b : Bool} (n : pInB x y = none) (e : inD x y = some b) : gNinX x y = some (.val (.bl (!b))) := by unfold gNinX; rw [n]; show (match inD x y with | some b => vB (!b) | none => none) = _; rw [e]; rfl
end
/-! startswith, endswith -/
def gSw : Str → List PV → Option EV := fun a ps => match ps with
  | [.str b] => some (.val (.bl (Txt.startswith a b)))
  | _ => none
def gEw : Str → List PV → Option EV := fun a ps => match ps with
  | [.str b] => some (.val (.bl (Txt.endswith a b)))
  | _ => none
section
variable {S : Sc}
theorem mt_sw : MetS S "startswith" "str.startswith" gSw where
  slot := PySem.F.slot_str_startswith
  hty := PySem.F.type_str_startswith
  run := fun X A => ⟨_, mt_startswith, fun F σp h σ H a ps vs ez QV s rl eg k => by
    unfold gSw at eg
    split at eg
    · rename_i b
      obtain ⟨v, rfl, r⟩ := rl.one
      rw [r.str]
      cases eg
      exact ⟨a, b, rfl, rfl, k F H _ .refl (rsv s (.bl _))⟩
    · cases eg⟩
theorem mt_ew : MetS S "endswith" "str.endswith" gEw where
  slot := PySem.F.slot_str_endswith
  hty := PySem.F.type_str_endswith
  run := fun X A => ⟨_, mt_endswith, fun F σp h σ H a ps vs ez QV s rl eg k => by
    unfold gEw at eg
    split at eg
    · rename_i b
      obtain ⟨v, rfl, r⟩ := rl.one
      rw [r.str]
      cases eg
      exact ⟨a, b, rfl, rfl, k F H _ .refl (rsv s (.bl _))⟩
    · cases eg⟩
end
theorem sw_eq {a b : Str} : gSw a [.str b] = some (.val (.bl (Txt.startswith a b))) := (rfl)
theorem ew_eq {a b : Str} : gEw a [.str b] = some (.val (.bl (Txt.endswith a b))) := (rfl)
end PP
set_option Elab.async false
set_option linter.all false
set_option maxRecDepth 100000
set_option maxHeartbeats 1000000
namespace PP
open PySem PySem.Spec PyProof.Rows L2
local macro_rules | `(tactic| dsimp! [$xs:simpLemma,*]) => `(tactic| simp only [q0, q1, q2, q3, q4, q5, q6, q7, q8, q9, q10, q11, q12, q13, q14, q15, q16, q17, q18, q19, q20, q21, q22, q23, q24, q25, q26, q27, q28, q29, q30, q31, q32, q33, q34, q35, q36, q37, q38, q39, q40, q41, q42, q43, q44, q45, q46, q47, q48, q49, q50, q51, q52, q53, q54, q55, q56, q57, q58, q59, q60, q61, q62, q63, q64, q65, q66, q67, q68, q69, q70, q71, q72, q73, q74, q75, q76, q77, q78, q79, q80, q81, q82, q83, q84, q85, q86, q87, q88, q89, q90, q91, q92, q93, q94, q95, q96, q97, q98, q99, q100, q101, q102, q103, q104, q105, q106, q107, q108, q109, q110, q111, q112, q113, q114, q115, q116, q117, q118, q119, q120, q121, q122, q123, q124, q125, q126, q127, q128, q129, q130, q131, q132, q133, q134, q135, q136, q137, q138, q139, q140, q141, q142, q143, q144, q145, q146, q147, q148, q149, q150, q151, q152, q153, q154, q155, q156, q157, q158, q159, q160, q161, q162, q163, q164, q165, q166, q167, q168, q169, q170, q171, q172, q173, q174, q175, q176, q177, q178, q179, q180, q181, q182, q183, q184, q185, q186, q187, q188, q189, q190, q191, q192, q193, q194, q195, q196, q197, q198, q199, q200, q201, q202, q203, q204, q205, q206, q207, q208, q209, q210, q211, q212, q213, q214, q215, q216, q217, q218, q219, q220, q221, q222, q223, q224, q225, q226, q227, q228, q229, q230, q231, q232, q233, q234, q235, q236, q237, q238, q239, q240, q241, q242, q243, q244, q245, q246, q247, q248, q249, q250, q251, q252, q253, q254, q255, q256, q257, q258, q259, q260, q261, q262, q263, q264, q265, q266, q267, q268, q269, q270, q271, q272, q273, q274, q275, q276, q277, q278, q279, q280, q281, q282, q283, q284, q285, q286, q287, q288, q289, q290, q291, q292, q293, q294, q295, q296, q297, q298, q299, q300, q301, q302, q303, q304, q305, q306, q307, q308, q309, q310, q311, q312, q313, q314, q315, q316, q317, q318, q319, q320, q321, q322, q323, q324, q325, q326, q327, q328, q329, q330, q331, q332, q333, q334, q335, q336, q337, q338, q339, q340, q341, q342, q343, q344, q345, q346, q347, q348, q349, q350, q351, q352, q353, q354, q355, q356, q357, q358, q359, q360, q361, q362, q363, q364, q365, q366, q367, q368, q369, q370, q371, q372, q373, q374, q375, q376, q377, q378, q379, q380, q381, q382, q383, q384, q385, q386, q387, q388, q389, q390, q391, q392, q393, q394, q395, q396, q397, q398, q399, q400, q401, q402, q403, q404, q405, q406, q407, q408, q409, q410, q411, q412, q413, q414, q415, q416, q417, q418, q419, q420, q421, q422, q423, q424, q425, q426, q427, q428, q429, q430, q431, qsI, qlI, qcI, quI, qeI, qtI, qfI, qm6, qm7, cmulR, cmulL, cdivL, fitL, castL, cpowL, q452, q453, atL, atN1, ixL, q457, q458, q459, q460, q461, q462, q463, q464, q465, q466, q467, q468, q469, q470, q471, q472, q473, q474, q475, q476, q477, q478, q479, q480, q481, q482, q483, q484, q485, q486, q487, q488, List.getElem?_cons_zero, List.getElem?_cons_succ, List.set_cons_zero, List.set_cons_succ, List.length_cons, List.length_nil, List.map_cons, List.map_nil, List.append_nil, List.nil_append, List.cons_append, Option.map_some, Option.map_none, Option.bind_some, Option.bind_none, decide_eq_true_eq, Bool.not_eq_true, Bool.not_not, Bool.not_true, Bool.not_false, Bool.and_eq_true, Bool.or_eq_true, Bool.not_eq_true', decide_eq_false_iff_not, Bool.false_eq_true, if_true, if_false, ite_true, ite_false, ite_self, reduceIte, sizeLine_eq, decide_true, decide_false, Bool.true_and, Bool.and_true, Bool.false_and, Bool.and_false, Bool.true_or, Bool.or_true, Bool.false_or, Bool.or_false, true_and, and_true, false_and, and_false, true_or, or_true, false_or, or_false, not_true_eq_false, not_false_eq_true, Bool.if_true_left, Bool.if_true_right, Bool.if_false_left, Bool.if_false_right, Bool.decide_eq_true, Bool.decide_eq_false, bne_iff_ne, ne_eq, Bool.decide_and, Bool.decide_or, Nat.zero_add, wipe_nil, wipe_cons, back_nil, back_cons, backS_v, backS_o, backS_n, Int.toNat_natCast, Nat.reduceAdd, Nat.reduceSub, Nat.reduceMul, Nat.reduceLT, Nat.reduceLeDiff, Nat.reduceEqDiff, Nat.reducePow, Int.reduceAdd, Int.reduceSub, Int.reduceMul, Int.reduceNeg, Int.reduceDiv, Int.reduceMod, Int.reducePow, Int.reduceLT, Int.reduceLE, Int.reduceGT, Int.reduceGE, Int.reduceEq, Int.reduceNe, Int.reduceToNat, List.all_cons, List.all_nil, List.zip_cons_cons, List.zip_nil_left, Bool.and_eq_false_iff, Bool.or_eq_false_iff, Bool.not_eq_false, Int.ofNat_zero, Int.ofNat_one, Nat.reduceDiv, Nat.reduceMod, List.isEmpty_cons, List.isEmpty_nil, eq_self, rxt1, rxt2, rxt3, rxt4, o1, o2, o3, o4, o5, o6, o7, o8, o9, o10, o11, o12, o13, o14, o15, o16, o17, o18, o19, o20, o21, n1, n2, n3, n4, n5, n6, n7, n8, n9, n10, y1, y2, y3, y4, y5, y6, PP.upd_at, PP.upd_upd, zz1, zz2, zz3, zz4, zz5, zz6, zz7, zz8, zz9, zz10, zz11, zz12, dd1, dd2, dd3, dd4, dd5, dd6, dd7, dd8, dd9, dd10, dd11, dd12, dd13, dd14, dd15, dd16, $xs:simpLemma,*])
local macro_rules | `(tactic| dsimp! [$xs:simpLemma,*] at $h:ident) => `(tactic| simp only [q0, q1, q2, q3, q4, q5, q6, q7, q8, q9, q10, q11, q12, q13, q14, q15, q16, q17, q18, q19, q20, q21, q22, q23, q24, q25, q26, q27, q28, q29, q30, q31, q32, q33, q34, q35, q36, q37, q38, q39, q40, q41, q42, q43, q44, q45, q46, q47, q48, q49, q50, q51, q52, q53, q54, q55, q56, q57, q58, q59, q60, q61, q62, q63, q64, q65, q66, q67, q68, q69, q70, q71, q72, q73, q74, q75, q76, q77, q78, q79, q80, q81, q82, q83, q84, q85, q86, q87, q88, q89, q90, q91, q92, q93, q94, q95, q96, q97, q98, q99, q100, q101, q102, q103, q104, q105, q106, q107, q108, q109, q110, q111, q112, q113, q114, q115, q116, q117, q118, q119, q120, q121, q122, q123, q124, q125, q126, q127, q128, q129, q130, q131, q132, q133, q134, q135, q136, q137, q138, q139, q140, q141, q142, q143, q144, q145, q146, q147, q148, q149, q150, q151, q152, q153, q154, q155, q156, q157, q158, q159, q160, q161, q162, q163, q164, q165, q166, q167, q168, q169, q170, q171, q172, q173, q174, q175, q176, q177, q178, q179, q180, q181, q182, q183, q184, q185, q186, q187, q188, q189, q190, q191, q192, q193, q194, q195, q196, q197, q198, q199, q200, q201, q202, q203, q204, q205, q206, q207, q208, q209, q210, q211, q212, q213, q214, q215, q216, q217, q218, q219, q220, q221, q222, q223, q224, q225, q226, q227, q228, q229, q230, q231, q232, q233, q234, q235, q236, q237, q238, q239, q240, q241, q242, q243, q244, q245, q246, q247, q248, q249, q250, q251, q252, q253, q254, q255, q256, q257, q258, q259, q260, q261, q262, q263, q264, q265, q266, q267, q268, q269, q270, q271, q272, q273, q274, q275, q276, q277, q278, q279, q280, q281, q282, q283, q284, q285, q286, q287, q288, q289, q290, q291, q292, q293, q294, q295, q296, q297, q298, q299, q300, q301, q302, q303, q304, q305, q306, q307, q308, q309, q310, q311, q312, q313, q314, q315, q316, q317, q318, q319, q320, q321, q322, q323, q324, q325, q326, q327, q328, q329, q330, q331, q332, q333, q334, q335, q336, q337, q338, q339, q340, q341, q342, q343, q344, q345, q346, q347, q348, q349, q350, q351, q352, q353, q354, q355, q356, q357, q358, q359, q360, q361, q362, q363, q364, q365, q366, q367, q368, q369, q370, q371, q372, q373, q374, q375, q376, q377, q378, q379, q380, q381, q382, q383, q384, q385, q386, q387, q388, q389, q390, q391, q392, q393, q394, q395, q396, q397, q398, q399, q400, q401, q402, q403, q404, q405, q406, q407, q408, q409, q410, q411, q412, q413, q414, q415, q416, q417, q418, q419, q420, q421, q422, q423, q424, q425, q426, q427, q428, q429, q430, q431, qsI, qlI, qcI, quI, qeI, qtI, qfI, qm6, qm7, cmulR, cmulL, cdivL, fitL, castL, cpowL, q452, q453, atL, atN1, ixL, q457, q458, q459, q460, q461, q462, q463, q464, q465, q466, q467, q468, q469, q470, q471, q472, q473, q474, q475, q476, q477, q478, q479, q480, q481, q482, q483, q484, q485, q486, q487, q488, List.getElem?_cons_zero, List.getElem?_cons_succ, List.set_cons_zero, List.set_cons_succ, List.length_cons, List.length_nil, List.map_cons, List.map_nil, List.append_nil, List.nil_append, List.cons_append, Option.map_some, Option.map_none, Option.bind_some, Option.bind_none, decide_eq_true_eq, Bool.not_eq_true, Bool.not_not, Bool.not_true, Bool.not_false, Bool.and_eq_true, Bool.or_eq_true, Bool.not_eq_true', decide_eq_false_iff_not, Bool.false_eq_true, if_true, if_false, ite_true, ite_false, ite_self, reduceIte, sizeLine_eq, decide_true, decide_false, Bool.true_and, Bool.and_true, Bool.false_and, Bool.and_false, Bool.true_or, Bool.or_true, Bool.false_or, Bool.or_false, true_and, and_true, false_and, and_false, true_or, or_true, false_or, or_false, not_true_eq_false, not_false_eq_true, Bool.if_true_left, Bool.if_true_right, Bool.if_false_left, Bool.if_false_right, Bool.decide_eq_true, Bool.decide_eq_false, bne_iff_ne, ne_eq, Bool.decide_and, Bool.decide_or, Nat.zero_add, wipe_nil, wipe_cons, back_nil, back_cons, backS_v, backS_o, backS_n, Int.toNat_natCast, Nat.reduceAdd, Nat.reduceSub, Nat.reduceMul, Nat.reduceLT, Nat.reduceLeDiff, Nat.reduceEqDiff, Nat.reducePow, Int.reduceAdd, Int.reduceSub, Int.reduceMul, Int.reduceNeg, Int.reduceDiv, Int.reduceMod, Int.reducePow, Int.reduceLT, Int.reduceLE, Int.reduceGT, Int.reduceGE, Int.reduceEq, Int.reduceNe, Int.reduceToNat, List.all_cons, List.all_nil, List.zip_cons_cons, List.zip_nil_left, Bool.and_eq_false_iff, Bool.or_eq_false_iff, Bool.not_eq_false, Int.ofNat_zero, Int.ofNat_one, Nat.reduceDiv, Nat.reduceMod, List.isEmpty_cons, List.isEmpty_nil, eq_self, rxt1, rxt2, rxt3, rxt4, o1, o2, o3, o4, o5, o6, o7, o8, o9, o10, o11, o12, o13, o14, o15, o16, o17, o18, o19, o20, o21, n1, n2, n3, n4, n5, n6, n7, n8, n9, n10, y1, y2, y3, y4, y5, y6, PP.upd_at, PP.upd_upd, zz1, zz2, zz3, zz4, zz5, zz6, zz7, zz8, zz9, zz10, zz11, zz12, dd1, dd2, dd3, dd4, dd5, dd6, dd7, dd8, dd9, dd10, dd11, dd12, dd13, dd14, dd15, dd16, $xs:simpLemma,*] at $h:ident)
/-! _law_pick(draws, row) -/
def N__law_pick : List Str := ["draws", "row"]
def R__law_pick : MS :=
  (mRet (r2 gIx (rV 1) (rCall 2 F__law_draw [] (rCons (rV 0) (rCons (rB gLen (rCons (rV 1) rNil)) rNil)))))
@[irreducible] def F__law_pick : FN := runF N__law_pick R__law_pick
theorem F__law_pick_def : F__law_pick = runF N__law_pick R__law_pick := by unfold F__law_pick; rfl
theorem u__law_pick {a0 a1 : PV} {h : PH} : F__law_pick [a0, a1] h = toF (R__law_pick [some (.val a0), some (.val a1)] h) := by rw [F__law_pick_def]; rfl
/-! _law_same(actual, expected) -/
def N__law_samB : List Str := ["actual", "expected", "k"]
def R__law_samB (F_self : FN) : MS :=
  (mSeq (mIf (rOrT (rTru (rB gIsi (rCons (rV 1) (rCons (rC (.cst (.ty "tuple"))) rNil)))) (rTru (rB gIsi (rCons (rV 1) (rCons (rC (.cst (.ty "list"))) rNil))))) (mSeq (mIf (rOrT (rTb (r2 gNe (rB gIsi (rCons (rV 0) (rCons (rC (.cst (.ty "tuple"))) rNil))) (rB gIsi (rCons (rV 1) (rCons (rC (.cst (.ty "tuple"))) rNil))))) (rTb (r2 gNe (rB gIsi (rCons (rV 0) (rCons (rC (.cst (.ty "list"))) rNil))) (rB gIsi (rCons (rV 1) (rCons (rC (.cst (.ty "list"))) rNil)))))) (mRet (rC (.bl false))) mNx)
    (mSeq (mIf (rTb (r2 gNe (rB gLen (rCons (rV 0) rNil)) (rB gLen (rCons (rV 1) rNil)))) (mRet (rC (.bl false))) mNx)
    (mRet (r2 gEq (rB gLen (rCons (rLc (rRng1 (rCons (rB gLen (rCons (rV 1) rNil)) rNil)) (tN 2) (rNotT (rTru (rCall 2 F_self [] (rCons (r2 gIx (rV 0) (rV 2)) (rCons (r2 gIx (rV 1) (rV 2)) rNil))))) (rV 2) [2]) rNil)) (rC (.int 0)))))) mNx)
    (mSeq (mIf (rOrT (rTru (rB gIsi (rCons (rV 1) (rCons (rC (.cst (.ty "bool"))) rNil)))) (rTru (rB gIsi (rCons (rV 0) (rCons (rC (.cst (.ty "bool"))) rNil))))) (mRet (rAnd (rB gIsi (rCons (rV 1) (rCons (rC (.cst (.ty "bool"))) rNil))) (rAnd (rB gIsi (rCons (rV 0) (rCons (rC (.cst (.ty "bool"))) rNil))) (r2 gEq (rV 0) (rV 1))))) mNx)
    (mSeq (mIf (rOrT (rTb (r2 gIs (rV 1) (rC .non))) (rTb (r2 gIs (rV 0) (rC .non)))) (mRet (rAnd (r2 gIs (rV 1) (rC .non)) (r2 gIs (rV 0) (rC .non)))) mNx)
    (mSeq (mIf (rOrT (rTru (rB gIsi (rCons (rV 1) (rCons (rC (.cst (.ty "str"))) rNil)))) (rTru (rB gIsi (rCons (rV 0) (rCons (rC (.cst (.ty "str"))) rNil))))) (mRet (rAnd (rB gIsi (rCons (rV 1) (rCons (rC (.cst (.ty "str"))) rNil))) (rAnd (rB gIsi (rCons (rV 0) (rCons (rC (.cst (.ty "str"))) rNil))) (r2 gEq (rV 0) (rV 1))))) mNx)
    (mRet (rAnd (rB gIsi (rCons (rV 0) (rCons (rC (.cst (.ty "int"))) rNil))) (rAnd (rB gIsi (rCons (rV 1) (rCons (rC (.cst (.ty "int"))) rNil))) (r2 gEq (rV 0) (rV 1)))))))))
def H__law_samB : Nat → FN
  | 0 => fun _ _ => .stk
  | n + 1 => runF N__law_samB (R__law_samB (H__law_samB n))
@[irreducible] def F__law_samB (n : Nat) : FN := H__law_samB n
theorem F__law_samB_zero : F__law_samB 0 = fun _ _ => .stk := by unfold F__law_samB; rfl
theorem F__law_samB_succ {n : Nat} : F__law_samB (n + 1) = runF N__law_samB (R__law_samB (F__law_samB n)) := by unfold F__law_samB; rfl
theorem u__law_samB {n : Nat} {a0 a1 : PV} {h : PH} : F__law_samB (n + 1) [a0, a1] h = toF (R__law_samB (F__law_samB n) [some (.val a0), some (.val a1), none] h) := by rw [F__law_samB_succ]; rfl
theorem f_samB_seq (n : Nat) (T : List PV → PV) (hT : T = .tup ∨ T = .lst) (ih : ∀ {x y : PV} {h : PH}, dataP n x → dataP n y → F__law_samB n [x, y] h = .ok (.val (.bl (sameB x y))) h) {xs ys : List PV} {h : PH} (l1 : xs.length < 1048576) (l2 : ys.length < 1048576)
    (d1 : ∀ x ∈ xs, dataP n x) (d2 : ∀ x ∈ ys, dataP n x) : F__law_samB (n + 1) [T xs, T ys] h = .ok (.val (.bl (sameL xs ys))) h := by
  rw [u__law_samB]; unfold R__law_samB
  by_cases c : xs.length = ys.length
  · have c' : ((xs.length : Nat) : Int) = (ys.length : Nat) := by omega
    have ft : Fit ((ys.length : Nat) : Int) := by unfold Fit; omega
    have lc : lcI (tN 2) (rNotT (rTru (rCall 2 (F__law_samB n) [] (rCons (r2 gIx (rV 0) (rV 2)) (rCons (r2 gIx (rV 1) (rV 2)) rNil))))) (rV 2) [2] (rangeP 0 ys.length) [] [some (.val (T xs)), some (.val (T ys)), none] h = .ok ((rangeP 0 ys.length).filterMap (difP xs ys)) [some (.val (T xs)), some (.val (T ys)), none] h := by
      rw [lc_fm (difP xs ys) _ [] (fun p hp => ?_) (by have := sizeLine_eq; simp [rangeP]; omega)]; rfl
      simp [rangeP] at hp
      obtain ⟨i, lt, rfl⟩ := hp
      have lx : i < xs.length := by omega
      have ax : atI xs (i : Int) = some xs[i] := atI_nat (List.getElem?_eq_getElem lx)
      have ay : atI ys (i : Int) = some ys[i] := atI_nat (List.getElem?_eq_getElem lt)
      have hd : difP xs ys (.int (i : Nat)) = if sameB xs[i] ys[i] then none else some (.int (i : Nat)) := by
        simp only [difP, Int.toNat_natCast, List.getElem?_eq_getElem lx, List.getElem?_eq_getElem lt]
      refine ⟨[some (.val (T xs)), some (.val (T ys)), some (.val (.int i))], ?_, rfl⟩
      rw [hd]
      have sp := ih (h := h) (d1 _ (List.getElem_mem lx)) (d2 _ (List.getElem_mem lt))
      rcases hT with rfl | rfl <;> (cases hb : sameB xs[i] ys[i] <;> (rw [hb] at sp; dsimp! [ax, ay, sp]))
    rcases hT with rfl | rfl <;> (dsimp! [c', ft, lc]; rw [dif_len c])
  · have c' : ¬ ((xs.length : Nat) : Int) = (ys.length : Nat) := by omega
    rw [sameL_len c]
    rcases hT with rfl | rfl <;> dsimp! [c']
theorem f_samB : ∀ (n : Nat) {x y : PV} {h : PH}, dataP n x → dataP n y → F__law_samB n [x, y] h = .ok (.val (.bl (sameB x y))) h
  | 0, _, _, _, d, _ => d.elim
  | n + 1, x, y, h, dx, dy => by
    cases y with
    | tup ys => cases x with
      | tup xs => exact f_samB_seq n .tup (.inl rfl) (f_samB n) dx.1 dy.1 dx.2 dy.2
      | rdl _ => exact dx.elim
      | dK _ => exact dx.elim
      | ref _ => exact dx.elim
      | cst _ => exact dx.elim
      | bad => exact dx.elim
      | _ => rw [u__law_samB]; unfold R__law_samB; dsimp! [sameB]
    | lst ys => cases x with
      | lst xs => exact f_samB_seq n .lst (.inr rfl) (f_samB n) dx.1 dy.1 dx.2 dy.2
      | rdl _ => exact dx.elim
      | dK _ => exact dx.elim
      | ref _ => exact dx.elim
      | cst _ => exact dx.elim
      | bad => exact dx.elim
      | _ => rw [u__law_samB]; unfold R__law_samB; dsimp! [sameB]
    | rdl _ => exact dy.elim
    | dK _ => exact dy.elim
    | ref _ => exact dy.elim
    | cst _ => exact dy.elim
    | bad => exact dy.elim
    | _ => cases x with
      | rdl _ => exact dx.elim
      | dK _ => exact dx.elim
      | ref _ => exact dx.elim
      | cst _ => exact dx.elim
      | bad => exact dx.elim
      | _ => rw [u__law_samB]; unfold R__law_samB; dsimp! [sameB]

theorem lsamB_eq {x y : PV} {h : PH} (e : x = y) (d : dataP 40 x) : F__law_samB 40 [x, y] h = .ok (.val (.bl true)) h := by
  subst e; rw [f_samB 40 d d, sameB_refl d]
theorem lsamB_refl {x : PV} {h : PH} (d : dataP 40 x) : F__law_samB 40 [x, x] h = .ok (.val (.bl true)) h := lsamB_eq rfl d
theorem f_pick_l {h : PH} {a : Addr} {xs : List PV} (d : DrH h a) (n0 : 0 < xs.length) (n1 : xs.length < 1048576) :
    ∃ x o, F__law_pick [.ref a, .lst xs] h = .ok (.val x) (updP h a o) ∧ DrH (updP h a o) a ∧ x ∈ xs := by
  obtain ⟨v, o, e, d', v0, v1⟩ := f_draw d (n := (xs.length : Nat)) (by omega) (by omega)
  obtain ⟨x, ex, m⟩ := at_ex v0 v1
  refine ⟨x, o, ?_, d', m⟩
  rw [u__law_pick]; unfold R__law_pick
  dsimp! [e, ex]
theorem f_pick_t {h : PH} {a : Addr} {xs : List PV} (d : DrH h a) (n0 : 0 < xs.length) (n1 : xs.length < 1048576) :
    ∃ x o, F__law_pick [.ref a, .tup xs] h = .ok (.val x) (updP h a o) ∧ DrH (updP h a o) a ∧ x ∈ xs := by
  obtain ⟨v, o, e, d', v0, v1⟩ := f_draw d (n := (xs.length : Nat)) (by omega) (by omega)
  obtain ⟨x, ex, m⟩ := at_ex v0 v1
  refine ⟨x, o, ?_, d', m⟩
  rw [u__law_pick]; unfold R__law_pick
  dsimp! [e, ex]
end PP
set_option Elab.async false
set_option linter.all false
set_option maxRecDepth 100000
set_option maxHeartbeats 1000000
namespace PP
open PySem PySem.Spec PyProof.Rows L2
local macro_rules | `(tactic| dsimp! [$xs:simpLemma,*]) => `(tactic| simp only [q0, q1, q2, q3, q4, q5, q6, q7, q8, q9, q10, q11, q12, q13, q14, q15, q16, q17, q18, q19, q20, q21, q22, q23, q24, q25, q26, q27, q28, q29, q30, q31, q32, q33, q34, q35, q36, q37, q38, q39, q40, q41, q42, q43, q44, q45, q46, q47, q48, q49, q50, q51, q52, q53, q54, q55, q56, q57, q58, q59, q60, q61, q62, q63, q64, q65, q66, q67, q68, q69, q70, q71, q72, q73, q74, q75, q76, q77, q78, q79, q80, q81, q82, q83, q84, q85, q86, q87, q88, q89, q90, q91, q92, q93, q94, q95, q96, q97, q98, q99, q100, q101, q102, q103, q104, q105, q106, q107, q108, q109, q110, q111, q112, q113, q114, q115, q116, q117, q118, q119, q120, q121, q122, q123, q124, q125, q126, q127, q128, q129, q130, q131, q132, q133, q134, q135, q136, q137, q138, q139, q140, q141, q142, q143, q144, q145, q146, q147, q148, q149, q150, q151, q152, q153, q154, q155, q156, q157, q158, q159, q160, q161, q162, q163, q164, q165, q166, q167, q168, q169, q170, q171, q172, q173, q174, q175, q176, q177, q178, q179, q180, q181, q182, q183, q184, q185, q186, q187, q188, q189, q190, q191, q192, q193, q194, q195, q196, q197, q198, q199, q200, q201, q202, q203, q204, q205, q206, q207, q208, q209, q210, q211, q212, q213, q214, q215, q216, q217, q218, q219, q220, q221, q222, q223, q224, q225, q226, q227, q228, q229, q230, q231, q232, q233, q234, q235, q236, q237, q238, q239, q240, q241, q242, q243, q244, q245, q246, q247, q248, q249, q250, q251, q252, q253, q254, q255, q256, q257, q258, q259, q260, q261, q262, q263, q264, q265, q266, q267, q268, q269, q270, q271, q272, q273, q274, q275, q276, q277, q278, q279, q280, q281, q282, q283, q284, q285, q286, q287, q288, q289, q290, q291, q292, q293, q294, q295, q296, q297, q298, q299, q300, q301, q302, q303, q304, q305, q306, q307, q308, q309, q310, q311, q312, q313, q314, q315, q316, q317, q318, q319, q320, q321, q322, q323, q324, q325, q326, q327, q328, q329, q330, q331, q332, q333, q334, q335, q336, q337, q338, q339, q340, q341, q342, q343, q344, q345, q346, q347, q348, q349, q350, q351, q352, q353, q354, q355, q356, q357, q358, q359, q360, q361, q362, q363, q364, q365, q366, q367, q368, q369, q370, q371, q372, q373, q374, q375, q376, q377, q378, q379, q380, q381, q382, q383, q384, q385, q386, q387, q388, q389, q390, q391, q392, q393, q394, q395, q396, q397, q398, q399, q400, q401, q402, q403, q404, q405, q406, q407, q408, q409, q410, q411, q412, q413, q414, q415, q416, q417, q418, q419, q420, q421, q422, q423, q424, q425, q426, q427, q428, q429, q430, q431, qsI, qlI, qcI, quI, qeI, qtI, qfI, qm6, qm7, cmulR, cmulL, cdivL, fitL, castL, cpowL, q452, q453, atL, atN1, ixL, q457, q458, q459, q460, q461, q462, q463, q464, q465, q466, q467, q468, q469, q470, q471, q472, q473, q474, q475, q476, q477, q478, q479, q480, q481, q482, q483, q484, q485, q486, q487, q488, List.getElem?_cons_zero, List.getElem?_cons_succ, List.set_cons_zero, List.set_cons_succ, List.length_cons, List.length_nil, List.map_cons, List.map_nil, List.append_nil, List.nil_append, List.cons_append, Option.map_some, Option.map_none, Option.bind_some, Option.bind_none, decide_eq_true_eq, Bool.not_eq_true, Bool.not_not, Bool.not_true, Bool.not_false, Bool.and_eq_true, Bool.or_eq_true, Bool.not_eq_true', decide_eq_false_iff_not, Bool.false_eq_true, if_true, if_false, ite_true, ite_false, ite_self, reduceIte, sizeLine_eq, decide_true, decide_false, Bool.true_and, Bool.and_true, Bool.false_and, Bool.and_false, Bool.true_or, Bool.or_true, Bool.false_or, Bool.or_false, true_and, and_true, false_and, and_false, true_or, or_true, false_or, or_false, not_true_eq_false, not_false_eq_true, Bool.if_true_left, Bool.if_true_right, Bool.if_false_left, Bool.if_false_right, Bool.decide_eq_true, Bool.decide_eq_false, bne_iff_ne, ne_eq, Bool.decide_and, Bool.decide_or, Nat.zero_add, wipe_nil, wipe_cons, back_nil, back_cons, backS_v, backS_o, backS_n, Int.toNat_natCast, Nat.reduceAdd, Nat.reduceSub, Nat.reduceMul, Nat.reduceLT, Nat.reduceLeDiff, Nat.reduceEqDiff, Nat.reducePow, Int.reduceAdd, Int.reduceSub, Int.reduceMul, Int.reduceNeg, Int.reduceDiv, Int.reduceMod, Int.reducePow, Int.reduceLT, Int.reduceLE, Int.reduceGT, Int.reduceGE, Int.reduceEq, Int.reduceNe, Int.reduceToNat, List.all_cons, List.all_nil, List.zip_cons_cons, List.zip_nil_left, Bool.and_eq_false_iff, Bool.or_eq_false_iff, Bool.not_eq_false, Int.ofNat_zero, Int.ofNat_one, Nat.reduceDiv, Nat.reduceMod, List.isEmpty_cons, List.isEmpty_nil, eq_self, rxt1, rxt2, rxt3, rxt4, o1, o2, o3, o4, o5, o6, o7, o8, o9, o10, o11, o12, o13, o14, o15, o16, o17, o18, o19, o20, o21, n1, n2, n3, n4, n5, n6, n7, n8, n9, n10, y1, y2, y3, y4, y5, y6, PP.upd_at, PP.upd_upd, zz1, zz2, zz3, zz4, zz5, zz6, zz7, zz8, zz9, zz10, zz11, zz12, dd1, dd2, dd3, dd4, dd5, dd6, dd7, dd8, dd9, dd10, dd11, dd12, dd13, dd14, dd15, dd16, $xs:simpLemma,*])
local macro_rules | `(tactic| dsimp! [$xs:simpLemma,*] at $h:ident) => `(tactic| simp only [q0, q1, q2, q3, q4, q5, q6, q7, q8, q9, q10, q11, q12, q13, q14, q15, q16, q17, q18, q19, q20, q21, q22, q23, q24, q25, q26, q27, q28, q29, q30, q31, q32, q33, q34, q35, q36, q37, q38, q39, q40, q41, q42, q43, q44, q45, q46, q47, q48, q49, q50, q51, q52, q53, q54, q55, q56, q57, q58, q59, q60, q61, q62, q63, q64, q65, q66, q67, q68, q69, q70, q71, q72, q73, q74, q75, q76, q77, q78, q79, q80, q81, q82, q83, q84, q85, q86, q87, q88, q89, q90, q91, q92, q93, q94, q95, q96, q97, q98, q99, q100, q101, q102, q103, q104, q105, q106, q107, q108, q109, q110, q111, q112, q113, q114, q115, q116, q117, q118, q119, q120, q121, q122, q123, q124, q125, q126, q127, q128, q129, q130, q131, q132, q133, q134, q135, q136, q137, q138, q139, q140, q141, q142, q143, q144, q145, q146, q147, q148, q149, q150, q151, q152, q153, q154, q155, q156, q157, q158, q159, q160, q161, q162, q163, q164, q165, q166, q167, q168, q169, q170, q171, q172, q173, q174, q175, q176, q177, q178, q179, q180, q181, q182, q183, q184, q185, q186, q187, q188, q189, q190, q191, q192, q193, q194, q195, q196, q197, q198, q199, q200, q201, q202, q203, q204, q205, q206, q207, q208, q209, q210, q211, q212, q213, q214, q215, q216, q217, q218, q219, q220, q221, q222, q223, q224, q225, q226, q227, q228, q229, q230, q231, q232, q233, q234, q235, q236, q237, q238, q239, q240, q241, q242, q243, q244, q245, q246, q247, q248, q249, q250, q251, q252, q253, q254, q255, q256, q257, q258, q259, q260, q261, q262, q263, q264, q265, q266, q267, q268, q269, q270, q271, q272, q273, q274, q275, q276, q277, q278, q279, q280, q281, q282, q283, q284, q285, q286, q287, q288, q289, q290, q291, q292, q293, q294, q295, q296, q297, q298, q299, q300, q301, q302, q303, q304, q305, q306, q307, q308, q309, q310, q311, q312, q313, q314, q315, q316, q317, q318, q319, q320, q321, q322, q323, q324, q325, q326, q327, q328, q329, q330, q331, q332, q333, q334, q335, q336, q337, q338, q339, q340, q341, q342, q343, q344, q345, q346, q347, q348, q349, q350, q351, q352, q353, q354, q355, q356, q357, q358, q359, q360, q361, q362, q363, q364, q365, q366, q367, q368, q369, q370, q371, q372, q373, q374, q375, q376, q377, q378, q379, q380, q381, q382, q383, q384, q385, q386, q387, q388, q389, q390, q391, q392, q393, q394, q395, q396, q397, q398, q399, q400, q401, q402, q403, q404, q405, q406, q407, q408, q409, q410, q411, q412, q413, q414, q415, q416, q417, q418, q419, q420, q421, q422, q423, q424, q425, q426, q427, q428, q429, q430, q431, qsI, qlI, qcI, quI, qeI, qtI, qfI, qm6, qm7, cmulR, cmulL, cdivL, fitL, castL, cpowL, q452, q453, atL, atN1, ixL, q457, q458, q459, q460, q461, q462, q463, q464, q465, q466, q467, q468, q469, q470, q471, q472, q473, q474, q475, q476, q477, q478, q479, q480, q481, q482, q483, q484, q485, q486, q487, q488, List.getElem?_cons_zero, List.getElem?_cons_succ, List.set_cons_zero, List.set_cons_succ, List.length_cons, List.length_nil, List.map_cons, List.map_nil, List.append_nil, List.nil_append, List.cons_append, Option.map_some, Option.map_none, Option.bind_some, Option.bind_none, decide_eq_true_eq, Bool.not_eq_true, Bool.not_not, Bool.not_true, Bool.not_false, Bool.and_eq_true, Bool.or_eq_true, Bool.not_eq_true', decide_eq_false_iff_not, Bool.false_eq_true, if_true, if_false, ite_true, ite_false, ite_self, reduceIte, sizeLine_eq, decide_true, decide_false, Bool.true_and, Bool.and_true, Bool.false_and, Bool.and_false, Bool.true_or, Bool.or_true, Bool.false_or, Bool.or_false, true_and, and_true, false_and, and_false, true_or, or_true, false_or, or_false, not_true_eq_false, not_false_eq_true, Bool.if_true_left, Bool.if_true_right, Bool.if_false_left, Bool.if_false_right, Bool.decide_eq_true, Bool.decide_eq_false, bne_iff_ne, ne_eq, Bool.decide_and, Bool.decide_or, Nat.zero_add, wipe_nil, wipe_cons, back_nil, back_cons, backS_v, backS_o, backS_n, Int.toNat_natCast, Nat.reduceAdd, Nat.reduceSub, Nat.reduceMul, Nat.reduceLT, Nat.reduceLeDiff, Nat.reduceEqDiff, Nat.reducePow, Int.reduceAdd, Int.reduceSub, Int.reduceMul, Int.reduceNeg, Int.reduceDiv, Int.reduceMod, Int.reducePow, Int.reduceLT, Int.reduceLE, Int.reduceGT, Int.reduceGE, Int.reduceEq, Int.reduceNe, Int.reduceToNat, List.all_cons, List.all_nil, List.zip_cons_cons, List.zip_nil_left, Bool.and_eq_false_iff, Bool.or_eq_false_iff, Bool.not_eq_false, Int.ofNat_zero, Int.ofNat_one, Nat.reduceDiv, Nat.reduceMod, List.isEmpty_cons, List.isEmpty_nil, eq_self, rxt1, rxt2, rxt3, rxt4, o1, o2, o3, o4, o5, o6, o7, o8, o9, o10, o11, o12, o13, o14, o15, o16, o17, o18, o19, o20, o21, n1, n2, n3, n4, n5, n6, n7, n8, n9, n10, y1, y2, y3, y4, y5, y6, PP.upd_at, PP.upd_upd, zz1, zz2, zz3, zz4, zz5, zz6, zz7, zz8, zz9, zz10, zz11, zz12, dd1, dd2, dd3, dd4, dd5, dd6, dd7, dd8, dd9, dd10, dd11, dd12, dd13, dd14, dd15, dd16, $xs:simpLemma,*] at $h:ident)
/-! is_sign(sign) -/
def N_is_sign : List Str := ["sign"]
def R_is_sign : MS :=
  (mRet (rOr (r2 gEq (rV 0) (rC (.str "\n"))) (rCh gLe gLe (rC (.int 32)) (rB gOrd (rCons (rV 0) rNil)) (rC (.int 126)))))
@[irreducible] def F_is_sign : FN := runF N_is_sign R_is_sign
theorem F_is_sign_def : F_is_sign = runF N_is_sign R_is_sign := by unfold F_is_sign; rfl
theorem u_is_sign {a0 : PV} {h : PH} : F_is_sign [a0] h = toF (R_is_sign [some (.val a0)] h) := by rw [F_is_sign_def]; rfl
/-! is_text(value) -/
def N_is_text : List Str := ["value", "sign"]
def R_is_text : MS :=
  (mRet (rAnd (rB gIsi (rCons (rV 0) (rCons (rC (.cst (.ty "str"))) rNil))) (rB gAll (rCons (rLc (rSeqI (rV 0)) (tN 1) rYes (rCall 1 F_is_sign [] (rCons (rV 1) rNil)) [1]) rNil))))
@[irreducible] def F_is_text : FN := runF N_is_text R_is_text
theorem F_is_text_def : F_is_text = runF N_is_text R_is_text := by unfold F_is_text; rfl
theorem u_is_text {a0 : PV} {h : PH} : F_is_text [a0] h = toF (R_is_text [some (.val a0), none] h) := by rw [F_is_text_def]; rfl
/-! is_line(value) -/
def N_is_line : List Str := ["value"]
def R_is_line : MS :=
  (mRet (rAnd (rCall 1 F_is_text [] (rCons (rV 0) rNil)) (r2 gNin (rC (.str "\n")) (rV 0))))
@[irreducible] def F_is_line : FN := runF N_is_line R_is_line
theorem F_is_line_def : F_is_line = runF N_is_line R_is_line := by unfold F_is_line; rfl
theorem u_is_line {a0 : PV} {h : PH} : F_is_line [a0] h = toF (R_is_line [some (.val a0)] h) := by rw [F_is_line_def]; rfl
/-- a right sign -/
def sgB (c : Nat) : Bool := decide (c = 10) || (decide (32 ≤ c) && decide (c ≤ 126))
theorem sg_nl {c : Nat} : ((⟨#[c]⟩ : Str) = "\n") ↔ c = 10 := by
  have e : ("\n" : Str) = ⟨#[10]⟩ := by decide
  rw [e]; simp
theorem f_sign {c : Nat} {h : PH} : F_is_sign [.str ⟨#[c]⟩] h = .ok (.val (.bl (sgB c))) h := by
  rw [u_is_sign]; unfold R_is_sign sgB
  have l : (⟨#[c]⟩ : Str).length = 1 := rfl
  by_cases a : c = 10
  · dsimp! [sg_nl, a, l]
  · by_cases b : 32 ≤ c
    · have b' : (32 : Int) ≤ (c : Int) := by omega
      by_cases d : c ≤ 126 <;> dsimp! [sg_nl, a, l, b, b', d] <;> simp <;> omega
    · have b' : ¬ (32 : Int) ≤ (c : Int) := by omega
      dsimp! [sg_nl, a, l, b, b'] <;> simp <;> omega
/-! comprehensions over a row that is given by its items -/
theorem lc_fmL {α : Type} {G : MG} {C : MT} {A : ME} {vs : List Nat} {h : PH} {σ : PSt} (g : α → PV) (f : α → Option PV) : ∀ (xs : List α) (acc : List PV), (∀ x ∈ xs, ∃ σ', lcE G C A (g x) σ h = .ok (f x) σ' h ∧ wipeP σ' vs = σ) → acc.length + xs.length ≤ sizeLine →
    lcI G C A vs (xs.map g) acc σ h = .ok (acc ++ xs.filterMap f) σ h
  | [], acc, _, _ => by rw [List.map_nil, lcR_nil]; simp
  | x :: xs, acc, z, l => by
    obtain ⟨σ', e, w⟩ := z x List.mem_cons_self
    rw [List.map_cons, lcR_cons, e]
    show lcK G C A vs (xs.map g) acc (f x) σ' h = _
    have l' : acc.length + (xs.length + 1) ≤ sizeLine := l
    cases hf : f x with
    | none => rw [lcK_none, w, lc_fmL g f xs acc (fun y hy => z y (List.mem_cons_of_mem _ hy)) (by omega)]; simp [hf]
    | some p => rw [lcK_some, if_pos (by omega), w, lc_fmL g f xs (acc ++ [p]) (fun y hy => z y (List.mem_cons_of_mem _ hy)) (by simp; omega)]; simp [hf]
theorem lc_mapL {α β : Type} {G : MG} {C : MT} {A : ME} {vs : List Nat} {h : PH} {σ : PSt} (g : α → PV) (f : α → β) (k : β → PV) (xs : List α) (z : ∀ x ∈ xs, ∃ σ', lcE G C A (g x) σ h = .ok (some (k (f x))) σ' h ∧ wipeP σ' vs = σ) (l : xs.length ≤ sizeLine) :
    lcI G C A vs (xs.map g) [] σ h = .ok ((xs.map f).map k) σ h := by
  rw [lc_fmL g (fun x => some (k (f x))) xs [] z (by simpa using l)]; simp [Function.comp_def]
/-- a text of right signs -/
def txB (z : Str) : Bool := z.cps.toList.all sgB
theorem len_cps {z : Str} : z.cps.toList.length = z.length := Array.length_toList
theorem f_text {z : Str} {h : PH} (l : z.length ≤ sizeLine) : F_is_text [.str z] h = .ok (.val (.bl (txB z))) h := by
  rw [u_is_text]; unfold R_is_text txB
  have lc : lcI (tN 1) rYes (rCall 1 F_is_sign [] (rCons (rV 1) rNil)) [1] (sgP z) [] [some (.val (.str z)), none] h = .ok ((z.cps.toList.map sgB).map .bl) [some (.val (.str z)), none] h := by
    unfold sgP
    refine lc_mapL (fun c => .str ⟨#[c]⟩) sgB PV.bl _ (fun c _ => ⟨[some (.val (.str z)), some (.val (.str ⟨#[c]⟩))], ?_, rfl⟩) (by rw [len_cps]; exact l)
    dsimp! [f_sign]
  dsimp! [lc, blL_map]
  rw [List.all_map]; rfl
theorem f_text_non {h : PH} : F_is_text [.non] h = .ok (.val (.bl false)) h := by rw [u_is_text]; unfold R_is_text; dsimp! [q0]
theorem f_text_int {i : Int} {h : PH} : F_is_text [.int i] h = .ok (.val (.bl false)) h := by rw [u_is_text]; unfold R_is_text; dsimp! [q0]
theorem f_text_bl {i : Bool} {h : PH} : F_is_text [.bl i] h = .ok (.val (.bl false)) h := by rw [u_is_text]; unfold R_is_text; dsimp! [q0]
theorem f_text_tup {i : List PV} {h : PH} : F_is_text [.tup i] h = .ok (.val (.bl false)) h := by rw [u_is_text]; unfold R_is_text; dsimp! [q0]
theorem f_text_lst {i : List PV} {h : PH} : F_is_text [.lst i] h = .ok (.val (.bl false)) h := by rw [u_is_text]; unfold R_is_text; dsimp! [q0]
/-- a line -/
def lnB (z : Str) : Bool := txB z && !decide (10 ∈ z.cps.toList)
theorem sgn_nl : sgn "\n" = some 10 := by decide
theorem f_line {z : Str} {h : PH} (l : z.length ≤ sizeLine) : F_is_line [.str z] h = .ok (.val (.bl (lnB z))) h := by
  rw [u_is_line]; unfold R_is_line lnB
  have e := f_text (h := h) l
  cases hx : txB z <;> (rw [hx] at e; dsimp! [e, sgn_nl])
theorem f_line_non {h : PH} : F_is_line [.non] h = .ok (.val (.bl false)) h := by rw [u_is_line]; unfold R_is_line; dsimp! [f_text_non]
theorem f_line_int {i : Int} {h : PH} : F_is_line [.int i] h = .ok (.val (.bl false)) h := by rw [u_is_line]; unfold R_is_line; dsimp! [f_text_int]
theorem f_line_bl {i : Bool} {h : PH} : F_is_line [.bl i] h = .ok (.val (.bl false)) h := by rw [u_is_line]; unfold R_is_line; dsimp! [f_text_bl]
theorem f_line_tup {i : List PV} {h : PH} : F_is_line [.tup i] h = .ok (.val (.bl false)) h := by rw [u_is_line]; unfold R_is_line; dsimp! [f_text_tup]
theorem f_line_lst {i : List PV} {h : PH} : F_is_line [.lst i] h = .ok (.val (.bl false)) h := by rw [u_is_line]; unfold R_is_line; dsimp! [f_text_lst]
/-! == of rows of ints -/
theorem dat_ints : ∀ {ns : List Int}, datL (ns.map .int) = some (ns.map .int)
  | [] => rfl
  | n :: ns => by rw [List.map_cons, datL, dat_ints]; rfl
theorem eqv_ints : ∀ {ns ms : List Int}, PyData.eqvAll (ns.map .int) (ms.map .int) = decide (ns = ms)
  | [], [] => rfl
  | [], _ :: _ => rfl
  | _ :: _, [] => rfl
  | n :: ns, m :: ms => by
    rw [List.map_cons, List.map_cons, PyData.eqvAll, eqv_ints]
    show ((n == m) && _) = _
    rw [Bool.eq_iff_iff]; simp
theorem shaped_ints {ns : List Int} (l : ns.length ≤ sizeLine) : SeqAt.shaped (.tuple (ns.map .int)) = true := by
  have e1 : ∀ ns : List Int, PyData.canLayAll0 (ns.map .int) = true := by
    intro ns
    induction ns with
    | nil => rfl
    | cons n ns ih => rw [List.map_cons, PyData.canLayAll0, ih]; rfl
  have e2 : ∀ ns : List Int, PyData.depthAll (ns.map .int) = 0 := by
    intro ns
    induction ns with
    | nil => rfl
    | cons n ns ih => rw [List.map_cons, PyData.depthAll, ih]; rfl
  unfold SeqAt.shaped
  rw [PyData.canLay0, PyData.depth, e1, e2]; rfl
theorem eq_ints {ns ms : List Int} (l : ns.length ≤ sizeLine) (l' : ms.length ≤ sizeLine) : pEqB (.tup (ns.map .int)) (.tup (ms.map .int)) = some (decide (ns = ms)) := by
  show (match dat (.tup (ns.map .int)), dat (.tup (ms.map .int)) with
    | some d, some e => if SeqAt.shaped d && SeqAt.shaped e then some (PyData.eqv d e) else none
    | _, _ => none) = _
  rw [dat, dat, dat_ints, dat_ints]
  show (if SeqAt.shaped (.tuple (ns.map .int)) && SeqAt.shaped (.tuple (ms.map .int)) then some (PyData.eqvAll (ns.map .int) (ms.map .int)) else none) = _
  rw [shaped_ints l, shaped_ints l', eqv_ints]; rfl
/-! texts of drawn signs -/
def mk1 (c : Nat) : Str := ⟨#[c]⟩
theorem join_fold : ∀ (cs : List Nat) (acc : Array Nat), ((cs.map mk1).foldl (fun acc p => acc ++ (Str.cps "") ++ p.cps) acc).toList = acc.toList ++ cs
  | [], acc => by simp
  | c :: cs, acc => by
    rw [List.map_cons, List.foldl_cons, join_fold cs]
    have e : (Str.cps "") = #[] := by decide
    rw [e]; simp [mk1]
theorem join_1 (cs : List Nat) : Txt.join "" (cs.map mk1) = ⟨cs.toArray⟩ := by
  have ext : ∀ {a b : Str}, a.cps.toList = b.cps.toList → a = b := by
    rintro ⟨⟨a⟩⟩ ⟨⟨b⟩⟩ h
    simp at h; rw [h]
  apply ext
  unfold Txt.join Builtin.Str.glued
  cases cs with
  | nil => rfl
  | cons c cs =>
    show (((cs.map mk1).foldl (fun acc p => acc ++ (Str.cps "") ++ p.cps) (mk1 c).cps)).toList = _
    rw [join_fold]; rfl
theorem join_len (cs : List Nat) : ((cs.map mk1).map (·.length)).sum = cs.length := by
  induction cs with
  | nil => rfl
  | cons c cs ih => rw [List.map_cons, List.map_cons, List.sum_cons, ih]; show 1 + _ = _; simp; omega
theorem join_ok {cs : List Nat} (l : cs.length ≤ 1000000) : (List.map (fun x => x.length) (List.map mk1 cs)).sum + (List.map mk1 cs).length * (Str.ofString "").length ≤ 16777216 := by
  have e : (Str.ofString "").length = 0 := by decide
  have := join_len cs
  rw [e, this]; omega
end PP
set_option Elab.async false
set_option linter.all false
set_option maxRecDepth 100000
set_option maxHeartbeats 1000000
namespace PP
open PySem PySem.Spec PyProof.Rows L2
/-! ### texts by their codes -/
def sT (cs : List Nat) : Str := ⟨cs.toArray⟩
theorem sT_cps {cs : List Nat} : (sT cs).cps.toList = cs := rfl
theorem sT_len {cs : List Nat} : (sT cs).length = cs.length := by show cs.toArray.size = _; simp
theorem sT_of (z : Str) : sT z.cps.toList = z := by cases z; rfl
theorem sT_inj {a b : List Nat} : (sT a = sT b) = (a = b) := by
  apply propext
  constructor
  · intro h
    have : (sT a).cps.toList = (sT b).cps.toList := by rw [h]
    exact this
  · rintro rfl; rfl
theorem mk_sT {c : Nat} : (⟨#[c]⟩ : Str) = sT [c] := rfl
theorem sT_app {a b : List Nat} : sT a ++ sT b = sT (a ++ b) := by
  show (⟨a.toArray ++ b.toArray⟩ : Str) = _
  unfold sT; simp
theorem sgP_sT {cs : List Nat} : sgP (sT cs) = cs.map fun c => .str ⟨#[c]⟩ := rfl
theorem sgn_sT {c : Nat} : sgn (sT [c]) = some c := rfl
theorem tx_sT {cs : List Nat} : txB (sT cs) = cs.all sgB := rfl
theorem sz_sT {cs : List Nat} (l : cs.length ≤ 16777216) : (sT cs).length ≤ sizeLine := by rw [sT_len, sizeLine_eq]; exact l
theorem cut_nn {cs : List Nat} {a b : Nat} : cutS (sT cs) (some (a : Int)) (some (b : Int)) = sT ((cs.drop a).take (b - a)) := by
  unfold cutS
  rw [HT.sIx_nat, HT.sIx_nat, sT_len, sT_cps]
  show sT _ = sT _
  congr 1
  by_cases h : a ≤ cs.length
  · rw [show min a cs.length = a by omega]
    by_cases h2 : b ≤ cs.length
    · rw [show min b cs.length = b by omega]
    · rw [show min b cs.length = cs.length by omega, List.take_of_length_le (by simp), List.take_of_length_le (by simp; omega)]
  · rw [show min a cs.length = cs.length by omega, List.drop_of_length_le (Nat.le_refl _), List.drop_of_length_le (by omega)]; simp
theorem cut_0n {cs : List Nat} {b : Nat} : cutS (sT cs) none (some (b : Int)) = sT (cs.take b) := by
  unfold cutS
  rw [HT.sIx_nat, HT.sIx_none, sT_len, sT_cps]
  show sT _ = sT _
  congr 1
  simp only [List.drop_zero, Nat.sub_zero]
  by_cases h2 : b ≤ cs.length
  · rw [show min b cs.length = b by omega]
  · rw [show min b cs.length = cs.length by omega, List.take_of_length_le (Nat.le_refl _), List.take_of_length_le (by omega)]
theorem cut_n0 {cs : List Nat} {a : Nat} : cutS (sT cs) (some (a : Int)) none = sT (cs.drop a) := by
  unfold cutS
  rw [HT.sIx_nat, HT.sIx_none, sT_len, sT_cps]
  show sT _ = sT _
  congr 1
  by_cases h : a ≤ cs.length
  · rw [show min a cs.length = a by omega, List.take_of_length_le (by simp)]
  · rw [show min a cs.length = cs.length by omega, List.drop_of_length_le (Nat.le_refl _), List.drop_of_length_le (by omega)]; simp
theorem cut_00 {cs : List Nat} : cutS (sT cs) none none = sT cs := by
  unfold cutS
  rw [HT.sIx_none, HT.sIx_none, sT_len, sT_cps]
  show sT _ = sT _
  congr 1
  simp
theorem cut_lit {cs : List Nat} {n : Nat} : cutS (sT cs) none (some (no_index (OfNat.ofNat n) : Int)) = sT (cs.take n) := cut_0n
theorem cut_litF {cs : List Nat} {n : Nat} : cutS (sT cs) (some (no_index (OfNat.ofNat n) : Int)) none = sT (cs.drop n) := cut_n0
theorem cut_neg1 {cs : List Nat} : cutS (sT cs) none (some (-1)) = sT cs.dropLast := by
  unfold cutS
  rw [HT.sIx_none, sT_len, sT_cps]
  have e : HT.sIx cs.length cs.length (some (-1)) = cs.length - 1 := by
    unfold HT.sIx
    by_cases h : cs.length = 0
    · simp [h]
    · simp; omega
  rw [e]
  show sT _ = sT _
  congr 1
  simp [List.dropLast_eq_take]
theorem at_sT {cs : List Nat} {j : Nat} {c : Nat} (h : cs[j]? = some c) : atI (sT cs).cps.toList (j : Int) = some c := atI_nat h
/-! one sign found -/
section
open StrLaws Builtin.Str
theorem occ_keep (s sub : Str) (hi : Nat) : ∀ (l : List Nat) (st : Array Nat × Nat), st.fst.size = 1 → (forIn l st (occBody s sub hi 1)).run.fst = st.fst
  | [], st, h => rfl
  | a :: l, st, h => by
    rw [List.forIn_cons]
    unfold occBody
    rw [if_neg (by omega)]
    exact occ_keep s sub hi l (st.fst, st.snd) h
theorem occ_first (x : Str) (c : Nat) : ∀ (l : List Nat) (free : Nat), (∀ i ∈ l, free ≤ i) →
    (forIn l ((#[] : Array Nat), free) (occBody x ⟨#[c]⟩ x.length 1)).run.fst.toList = (l.find? fun i => decide (x.cps.toList[i]? = some c)).toList
  | [], free, _ => rfl
  | a :: l, free, hf => by
    rw [List.forIn_cons]
    unfold occBody
    have ha : free ≤ a := hf a (List.mem_cons_self ..)
    by_cases hc : x.cps.toList[a]? = some c
    · have q := (subAt_one x c a).mpr hc
      rw [if_pos ⟨⟨⟨by simp, ha⟩, q.1⟩, q.2⟩, List.find?_cons_of_pos (by simpa using hc)]
      show (forIn l ((#[] : Array Nat).push a, _) (occBody x ⟨#[c]⟩ x.length 1)).run.fst.toList = _
      rw [occ_keep _ _ _ _ _ (by simp)]; rfl
    · have nq : ¬ (((((#[] : Array Nat), free).fst.size < 1 ∧ ((#[] : Array Nat), free).snd ≤ a) ∧ a + (⟨#[c]⟩ : Str).length ≤ x.length) ∧ subAt x ⟨#[c]⟩ a = true) := fun z => hc ((subAt_one x c a).mp ⟨z.1.2, z.2⟩)
      rw [if_neg nq, List.find?_cons_of_neg (by simpa using hc)]
      exact occ_first x c l free fun i hi' => hf i (List.mem_cons_of_mem _ hi')
theorem find_first {c : Nat} : ∀ (a b : List Nat) (k : Nat) (xs : List Nat) (n : Nat), c ∉ a → a.length < n → (∀ i, xs[k + i]? = (a ++ c :: b)[i]?) → (List.range' k n).find? (fun i => decide (xs[i]? = some c)) = some (k + a.length)
  | [], b, k, xs, n + 1, _, _, e => by
    rw [List.range'_succ, List.find?_cons_of_pos]
    · rfl
    · have := e 0; simp at this; simpa using this
  | d :: a, b, k, xs, n + 1, h, l, e => by
    rw [List.range'_succ, List.find?_cons_of_neg]
    · rw [find_first a b (k + 1) xs n (fun z => h (List.mem_cons_of_mem _ z)) (by simpa using l) (fun i => by
        have := e (i + 1)
        rw [show k + 1 + i = k + (i + 1) by omega, this]; rfl)]
      simp; omega
    · have := e 0
      simp at this
      rw [this]
      simp
      exact fun z => h (by rw [z]; exact List.mem_cons_self)
theorem occ_at {a b : List Nat} {c : Nat} (h : c ∉ a) : occurrences (sT (a ++ c :: b)) ⟨#[c]⟩ 0 (sT (a ++ c :: b)).length 1 = [a.length] := by
  rw [occ_eq, occ_first _ _ _ _ (fun _ _ => Nat.zero_le _), find_first a b 0 _ _ h (by rw [sT_len]; simp; omega) (fun i => by rw [Nat.zero_add]; rfl)]
  simp
end
theorem idx_at {a b : List Nat} {c : Nat} (h : c ∉ a) : gTidx (sT (a ++ c :: b)) [.str (sT [c])] = some (.val (.int (a.length : Nat))) := by
  rw [q282]
  have := occ_at (a := a) (b := b) h
  show oIx (Builtin.Str.occurrences (sT (a ++ c :: b)) ⟨#[c]⟩ 0 (sT (a ++ c :: b)).length 1) = _
  rw [this]; rfl
/-! figures -/
def isD (c : Nat) : Bool := decide (48 ≤ c) && decide (c ≤ 57)
def digs : List Nat := [48, 49, 50, 51, 52, 53, 54, 55, 56, 57]
theorem lit_digs : ("0123456789" : Str) = sT digs := by decide
theorem mem_digs {c : Nat} : (c ∈ digs) = (isD c = true) := by
  apply propext
  unfold digs isD
  simp
  omega
theorem isD_iff {c : Nat} : isD c = true ↔ 48 ≤ c ∧ c ≤ 57 := by unfold isD; simp
theorem idx_dig {c : Nat} (h : isD c = true) : gTidx (sT digs) [.str ⟨#[c]⟩] = some (.val (.int (c - 48 : Nat))) := by
  rw [isD_iff] at h
  have z : c = 48 ∨ c = 49 ∨ c = 50 ∨ c = 51 ∨ c = 52 ∨ c = 53 ∨ c = 54 ∨ c = 55 ∨ c = 56 ∨ c = 57 := by omega
  rcases z with rfl | rfl | rfl | rfl | rfl | rfl | rfl | rfl | rfl | rfl
  · exact idx_at (a := []) (b := [49, 50, 51, 52, 53, 54, 55, 56, 57]) (by decide)
  · exact idx_at (a := [48]) (b := [50, 51, 52, 53, 54, 55, 56, 57]) (by decide)
  · exact idx_at (a := [48, 49]) (b := [51, 52, 53, 54, 55, 56, 57]) (by decide)
  · exact idx_at (a := [48, 49, 50]) (b := [52, 53, 54, 55, 56, 57]) (by decide)
  · exact idx_at (a := [48, 49, 50, 51]) (b := [53, 54, 55, 56, 57]) (by decide)
  · exact idx_at (a := [48, 49, 50, 51, 52]) (b := [54, 55, 56, 57]) (by decide)
  · exact idx_at (a := [48, 49, 50, 51, 52, 53]) (b := [55, 56, 57]) (by decide)
  · exact idx_at (a := [48, 49, 50, 51, 52, 53, 54]) (b := [56, 57]) (by decide)
  · exact idx_at (a := [48, 49, 50, 51, 52, 53, 54, 55]) (b := [57]) (by decide)
  · exact idx_at (a := [48, 49, 50, 51, 52, 53, 54, 55, 56]) (b := []) (by decide)
/-- the number that figures tell -/
def dN : Nat → List Nat → Nat
  | n, [] => n
  | n, c :: cs => dN (10 * n + (c - 48)) cs
theorem dN_fold : ∀ (cs : List Nat) (n : Nat), cs.foldl (fun acc c => acc * 10 + (c - 48)) n = dN n cs
  | [], _ => rfl
  | c :: cs, n => by
    rw [List.foldl_cons, dN_fold cs]
    show _ = dN (10 * n + (c - 48)) cs
    rw [Nat.mul_comm]
theorem dN_lt : ∀ (cs : List Nat) (n : Nat), cs.all isD = true → dN n cs < (n + 1) * 10 ^ cs.length
  | [], n, _ => by show n < (n + 1) * 10 ^ 0; omega
  | c :: cs, n, h => by
    rw [List.all_cons, Bool.and_eq_true, isD_iff] at h
    have ih := dN_lt cs (10 * n + (c - 48)) h.2
    show dN (10 * n + (c - 48)) cs < (n + 1) * 10 ^ (cs.length + 1)
    have this : (10 * n + (c - 48) + 1) * 10 ^ cs.length ≤ ((n + 1) * 10) * 10 ^ cs.length := Nat.mul_le_mul_right _ (by omega)
    have e : (n + 1) * 10 ^ (cs.length + 1) = (n + 1) * 10 * 10 ^ cs.length := by rw [Nat.pow_succ, Nat.mul_comm (10 ^ cs.length) 10, Nat.mul_assoc]
    rw [e]
    exact Nat.lt_of_lt_of_le ih this
theorem int_digs {cs : List Nat} (h : cs.all isD = true) (h1 : cs ≠ []) (h2 : cs.length ≤ 640) : gInt [.str (sT cs)] = some (.val (.int (dN 0 cs : Nat))) := by
  have hd : ∀ c ∈ cs, 48 ≤ c ∧ c ≤ 57 := fun c hc => isD_iff.mp (List.all_eq_true.mp h c hc)
  have e : PySem.intText? (sT cs) = some ((dN 0 cs : Nat) : Int) := by
    have := PySem.intText_digits (x := sT cs) hd h1 (by rw [sT_len]; omega)
    rw [this]
    have q : PySem.NumText.digitsVal (sT cs).cps.toList = dN 0 cs := dN_fold cs 0
    rw [q]
  show (match PySem.intText? (sT cs) with | some n => if (sT cs).length ≤ 640 then vI n else none | none => none) = _
  rw [e]
  show (if (sT cs).length ≤ 640 then vI ((dN 0 cs : Nat) : Int) else none) = _
  rw [if_pos (by rw [sT_len]; exact h2)]; rfl
/-- a number's figures -/
def dS (n : Nat) : List Nat := (Nat.toDigits 10 n).map Char.toNat
theorem str_num {n : Nat} (h : n < 1000000000) : gStrC [.int (n : Nat)] = some (.val (.str (sT (dS n)))) := by
  show (if (n : Int).natAbs.log2 < 1920 then some (EV.val (.str (PySem.Str.ofString (toString (n : Int))))) else none) = _
  have e : PySem.Str.ofString (toString (n : Int)) = sT (dS n) := by
    have := PySem.W.KIN.signs_num n
    rw [← sT_of (PySem.Str.ofString (toString (n : Int))), this]; rfl
  rw [e, if_pos]
  show n.log2 < 1920
  by_cases z : n = 0
  · subst z; decide
  · exact Nat.lt_of_lt_of_le ((Nat.log2_lt (k := 30) z).mpr (Nat.lt_of_lt_of_le h (by decide))) (by decide)
/-! '' joined -/
theorem join_foldT : ∀ (ls : List (List Nat)) (acc : Array Nat), ((ls.map sT).foldl (fun acc p => acc ++ (Str.cps "") ++ p.cps) acc).toList = acc.toList ++ ls.flatten
  | [], acc => by simp
  | c :: cs, acc => by
    rw [List.map_cons, List.foldl_cons, join_foldT cs]
    have e : (Str.cps "") = #[] := by decide
    rw [e]; simp [sT]
theorem join_T (ls : List (List Nat)) : Txt.join "" (ls.map sT) = sT ls.flatten := by
  have ext : ∀ {a b : Str}, a.cps.toList = b.cps.toList → a = b := by
    rintro ⟨⟨a⟩⟩ ⟨⟨b⟩⟩ h
    simp at h; rw [h]
  apply ext
  unfold Txt.join Builtin.Str.glued
  cases ls with
  | nil => rfl
  | cons c cs =>
    show (((cs.map sT).foldl (fun acc p => acc ++ (Str.cps "") ++ p.cps) (sT c).cps)).toList = _
    rw [join_foldT]; rfl
theorem join_lenT (ls : List (List Nat)) : ((ls.map sT).map (·.length)).sum = ls.flatten.length := by
  induction ls with
  | nil => rfl
  | cons c cs ih => rw [List.map_cons, List.map_cons, List.sum_cons, ih, sT_len]; simp
/-- ''.join(row) -/
theorem gjoin_T {ls : List (List Nat)} {xs : List PV} (e : xs = ls.map fun l => .str (sT l)) (l : ls.flatten.length ≤ 16777216) : (strL xs).bind (joinF "") = some (.val (.str (sT ls.flatten))) := by
  have e1 : xs = (ls.map sT).map .str := by rw [e, List.map_map]; rfl
  rw [e1, strL_map]
  show joinF "" (ls.map sT) = _
  unfold joinF
  rw [if_pos, join_T]
  rw [join_lenT]
  have e0 : (Str.length "") = 0 := by decide
  rw [e0]
  simpa using l
theorem strL_T {ls : List (List Nat)} : strL (ls.map fun l => .str (sT l)) = some (ls.map sT) := by
  have e : (ls.map fun l => PV.str (sT l)) = (ls.map sT).map .str := by rw [List.map_map]; rfl
  rw [e, strL_map]
theorem join_okT {ls : List (List Nat)} (l : ls.flatten.length ≤ 16777216) : (List.map (fun x => x.length) (List.map sT ls)).sum + (List.map sT ls).length * (Str.ofString "").length ≤ 16777216 := by
  have e : (Str.ofString "").length = 0 := by decide
  rw [e, join_lenT]; simpa using l
theorem mk_inj {c d : Nat} : ((⟨#[c]⟩ : Str) = sT [d]) = (c = d) := by rw [mk_sT, sT_inj]; simp
theorem lit_e : ("" : Str) = sT [] := by decide
theorem mul_T {c : Nat} {n : Int} : Txt.mul (sT [c]) n = sT (List.replicate n.toNat c) := by
  have h1 : ∀ (k : Nat) (acc : Array Nat), ((List.replicate k (sT [c]).cps).foldl (· ++ ·) acc).toList = acc.toList ++ List.replicate k c := by
    intro k
    induction k with
    | zero => intro acc; simp
    | succ k ih =>
      intro acc
      rw [List.replicate_succ, List.foldl_cons, ih, List.replicate_succ]
      simp [sT]
  unfold Txt.mul
  by_cases h : n < 1
  · rw [if_pos h, show n.toNat = 0 by omega]; rfl
  · rw [if_neg h]
    by_cases h2 : n = 1
    · subst h2; rfl
    · have e : (n == 1 || (sT [c]).length == 0) = false := by
        rw [sT_len]; simp [h2]
      rw [e]
      simp only [Bool.false_eq_true, if_false]
      have := h1 n.toNat #[]
      show (⟨_⟩ : Str) = ⟨_⟩
      congr 1
      apply Array.ext'
      rw [this]; simp [sT]
/-! where a run of figures ends -/
theorem tw_at {α : Type} {p : α → Bool} : ∀ {xs : List α} {j : Nat}, j < (xs.takeWhile p).length → ∃ c, xs[j]? = some c ∧ p c = true
  | [], j, h => by simp at h
  | x :: xs, j, h => by
    rw [List.takeWhile_cons] at h
    by_cases c : p x = true
    · rw [if_pos c] at h
      cases j with
      | zero => exact ⟨x, rfl, c⟩
      | succ j => 
        obtain ⟨d, e, q⟩ := tw_at (xs := xs) (j := j) (by simpa using h)
        exact ⟨d, by simpa using e, q⟩
    · rw [if_neg c] at h; simp at h
theorem tw_stop {α : Type} {p : α → Bool} : ∀ {xs : List α} {c : α}, xs[(xs.takeWhile p).length]? = some c → p c = false
  | [], c, h => by simp at h
  | x :: xs, c, h => by
    rw [List.takeWhile_cons] at h
    by_cases q : p x = true
    · rw [if_pos q] at h
      exact tw_stop (xs := xs) (by simpa using h)
    · rw [if_neg q] at h
      simp at h; subst h; simpa using q
theorem tw_drop {α : Type} {p : α → Bool} {xs : List α} : xs.drop (xs.takeWhile p).length = xs.dropWhile p := by
  induction xs with
  | nil => rfl
  | cons x xs ih =>
    rw [List.takeWhile_cons, List.dropWhile_cons]
    by_cases c : p x = true
    · rw [if_pos c, if_pos c]; simpa using ih
    · rw [if_neg c, if_neg c]; rfl
theorem tw_take {α : Type} {p : α → Bool} {xs : List α} : xs.take (xs.takeWhile p).length = xs.takeWhile p := by
  induction xs with
  | nil => rfl
  | cons x xs ih =>
    rw [List.takeWhile_cons]
    by_cases c : p x = true
    · rw [if_pos c]; simpa using ih
    · rw [if_neg c]; rfl
theorem rangeP_nil {j : Int} : rangeP j 0 = [] := rfl
theorem rangeP_cons {a : Int} {n : Nat} : rangeP a (n + 1) = .int a :: rangeP (a + 1) n := by
  unfold rangeP
  rw [List.range_succ_eq_map, List.map_cons, List.map_map]
  congr 1
  · simp
  · apply List.map_congr_left
    intro i _
    show PV.int _ = PV.int _
    congr 1
    show a + ((i + 1 : Nat) : Int) = _
    omega
theorem at_map {α : Type} {f : α → PV} {xs : List α} {j : Nat} {x : α} (h : xs[j]? = some x) : atI (xs.map f) (j : Int) = some (f x) := atI_nat (by rw [List.getElem?_map, h]; rfl)
theorem all_tt {α : Type} {xs : List α} : (xs.map fun _ => true).all (fun b => b) = true := by rw [List.all_map, List.all_eq_true]; intros; rfl
theorem in_strs {z : Str} : ∀ {ls : List Str}, (flatL (ls.map .str)).map (inV (.str z)) = some (decide (z ∈ ls))
  | [] => by simp [flatL, inV]
  | l :: ls => by
    have ih := in_strs (z := z) (ls := ls)
    cases hf : flatL (ls.map .str) with
    | none => rw [hf] at ih; cases ih
    | some vs =>
      rw [hf] at ih
      simp only [Option.map_some, Option.some.injEq] at ih
      rw [List.map_cons, q471, hf]
      simp only [Option.map_some, q475, ih, q477, List.mem_cons]
      congr 1
      rw [Bool.eq_iff_iff]; simp
/-! a number's figures, once more -/
theorem dS_val {n : Nat} : dN 0 (dS n) = n := by
  have q := PySem.W.KIN.val_back n
  unfold PySem.NumText.digitsVal at q
  rw [dN_fold] at q
  exact q
theorem dS_dig {n : Nat} : (dS n).all isD = true := by
  rw [List.all_eq_true]
  intro c hc
  unfold dS at hc
  obtain ⟨ch, hch, e⟩ := List.mem_map.mp hc
  have r := PyProof.Rows.digit_range (Nat.isDigit_of_mem_toDigits (by decide) (by decide) hch)
  rw [← e, isD_iff]
  exact r
theorem dS_len {n k : Nat} (hk : 1 ≤ k) (h : n < 10 ^ k) : (dS n).length ≤ k := by
  unfold dS
  rw [List.length_map]
  exact PySem.toDigits_len_pow (by decide) hk h
theorem dN_ge : ∀ (cs : List Nat) (n : Nat), n * 10 ^ cs.length ≤ dN n cs
  | [], n => by show n * 10 ^ 0 ≤ n; omega
  | c :: cs, n => by
    have ih := dN_ge cs (10 * n + (c - 48))
    show n * 10 ^ (cs.length + 1) ≤ dN (10 * n + (c - 48)) cs
    have this : n * 10 * 10 ^ cs.length ≤ (10 * n + (c - 48)) * 10 ^ cs.length := Nat.mul_le_mul_right _ (by omega)
    have e : n * 10 ^ (cs.length + 1) = n * 10 * 10 ^ cs.length := by rw [Nat.pow_succ, Nat.mul_comm (10 ^ cs.length) 10, Nat.mul_assoc]
    rw [e]
    exact Nat.le_trans this ih
theorem dN_zeros : ∀ (k : Nat) (cs : List Nat), dN 0 (List.replicate k 48 ++ cs) = dN 0 cs
  | 0, _ => rfl
  | k + 1, cs => by
    rw [List.replicate_succ, List.cons_append]
    exact dN_zeros k cs
end PP
set_option Elab.async false
set_option linter.all false
set_option maxRecDepth 100000
set_option maxHeartbeats 1000000
namespace PP
open PySem PySem.Spec PyProof.Rows L2
/-! ### cuts of rows -/
theorem cutP_to {xs : List PV} {j : Nat} : cutP xs none (some (j : Int)) = xs.take j := by
  unfold cutP
  rw [HT.sIx_none, HT.sIx_nat]
  simp only [List.drop_zero, Nat.sub_zero]
  by_cases c : j ≤ xs.length
  · rw [show min j xs.length = j by omega]
  · rw [show min j xs.length = xs.length by omega, List.take_of_length_le (by simp), List.take_of_length_le (by omega)]
theorem cutP_from {xs : List PV} {j : Nat} : cutP xs (some (j : Int)) none = xs.drop j := by
  unfold cutP
  rw [HT.sIx_none, HT.sIx_nat]
  by_cases c : j ≤ xs.length
  · rw [show min j xs.length = j by omega, List.take_of_length_le (by simp)]
  · rw [show min j xs.length = xs.length by omega, List.take_of_length_le (by simp), List.drop_of_length_le (by simp), List.drop_of_length_le (by omega)]
theorem cutP_ab {xs : List PV} {a b : Nat} : cutP xs (some (a : Int)) (some (b : Int)) = (xs.drop a).take (b - a) := by
  unfold cutP
  rw [HT.sIx_nat, HT.sIx_nat]
  by_cases c : a ≤ xs.length
  · rw [show min a xs.length = a by omega]
    by_cases d : b ≤ xs.length
    · rw [show min b xs.length = b by omega]
    · rw [show min b xs.length = xs.length by omega, List.take_of_length_le (by simp), List.take_of_length_le (by simp; omega)]
  · rw [show min a xs.length = xs.length by omega, List.drop_of_length_le (by simp), List.drop_of_length_le (by omega), List.take_nil, List.take_nil]
theorem cutP_toL {xs : List PV} {n : Nat} : cutP xs none (some (no_index (OfNat.ofNat n) : Int)) = xs.take n := cutP_to
theorem cutP_fromL {xs : List PV} {n : Nat} : cutP xs (some (no_index (OfNat.ofNat n) : Int)) none = xs.drop n := cutP_from
/-! ### == and `in` of rows of texts -/
theorem dat_strs : ∀ {ns : List Str}, datL (ns.map .str) = some (ns.map .str)
  | [] => rfl
  | n :: ns => by rw [List.map_cons, datL, dat_strs]; rfl
theorem eqv_strs : ∀ {ns ms : List Str}, PyData.eqvAll (ns.map .str) (ms.map .str) = decide (ns = ms)
  | [], [] => rfl
  | [], _ :: _ => rfl
  | _ :: _, [] => rfl
  | n :: ns, m :: ms => by
    rw [List.map_cons, List.map_cons, PyData.eqvAll, eqv_strs]
    show ((n == m) && _) = _
    rw [Bool.eq_iff_iff]; simp
theorem ok_tx {z : Str} (h : txB z = true) : PyData.strOk z = true := by
  unfold txB at h
  rw [List.all_eq_true] at h
  unfold PyData.strOk
  rw [Array.all_eq_true_iff_forall_mem]
  intro c hc
  have := h c (by simpa using hc)
  unfold sgB at this
  simp at this ⊢
  omega
theorem lay_strs : ∀ {ns : List Str}, (∀ n ∈ ns, txB n = true) → PyData.canLayAll0 (ns.map .str) = true
  | [], _ => rfl
  | n :: ns, g => by rw [List.map_cons, PyData.canLayAll0, lay_strs fun x hx => g x (List.mem_cons_of_mem _ hx), PyData.canLay0, ok_tx (g n List.mem_cons_self)]; rfl
theorem dep_strs : ∀ {ns : List Str}, PyData.depthAll (ns.map .str) = 0
  | [] => rfl
  | n :: ns => by rw [List.map_cons, PyData.depthAll, dep_strs]; rfl
theorem shaped_strs {ns : List Str} (g : ∀ n ∈ ns, txB n = true) : SeqAt.shaped (.tuple (ns.map .str)) = true := by
  unfold SeqAt.shaped
  rw [PyData.canLay0, PyData.depth, lay_strs g, dep_strs]; rfl
theorem shaped_strsL {ns : List Str} (g : ∀ n ∈ ns, txB n = true) : SeqAt.shaped (.list (ns.map .str)) = true := by
  unfold SeqAt.shaped
  rw [PyData.canLay0, PyData.depth, lay_strs g, dep_strs]; rfl
theorem eq_strs {ns ms : List Str} (l : ∀ n ∈ ns, txB n = true) (l' : ∀ n ∈ ms, txB n = true) : pEqB (.tup (ns.map .str)) (.tup (ms.map .str)) = some (decide (ns = ms)) := by
  show (match dat (.tup (ns.map .str)), dat (.tup (ms.map .str)) with
    | some d, some e => if SeqAt.shaped d && SeqAt.shaped e then some (PyData.eqv d e) else none
    | _, _ => none) = _
  rw [dat, dat, dat_strs, dat_strs]
  show (if SeqAt.shaped (.tuple (ns.map .str)) && SeqAt.shaped (.tuple (ms.map .str)) then some (PyData.eqvAll (ns.map .str) (ms.map .str)) else none) = _
  rw [shaped_strs l, shaped_strs l', eqv_strs]; rfl
theorem eq_strsL {ns ms : List Str} (l : ∀ n ∈ ns, txB n = true) (l' : ∀ n ∈ ms, txB n = true) : pEqB (.lst (ns.map .str)) (.lst (ms.map .str)) = some (decide (ns = ms)) := by
  show (match dat (.lst (ns.map .str)), dat (.lst (ms.map .str)) with
    | some d, some e => if SeqAt.shaped d && SeqAt.shaped e then some (PyData.eqv d e) else none
    | _, _ => none) = _
  rw [dat, dat, dat_strs, dat_strs]
  show (if SeqAt.shaped (.list (ns.map .str)) && SeqAt.shaped (.list (ms.map .str)) then some (PyData.eqvAll (ns.map .str) (ms.map .str)) else none) = _
  rw [shaped_strsL l, shaped_strsL l', eqv_strs]; rfl
theorem pin_strs {z : Str} {ls : List Str} : pInB (.str z) (.tup (ls.map .str)) = some (decide (z ∈ ls)) := by rw [q464, in_strs]
theorem pin_strsL {z : Str} {ls : List Str} : pInB (.str z) (.lst (ls.map .str)) = some (decide (z ∈ ls)) := by rw [q460, in_strs]
/-! rows of texts by codes -/
abbrev tP (w : List Nat) : PV := .str (sT w)
theorem map_tP {ws : List (List Nat)} : ws.map tP = (ws.map sT).map PV.str := by rw [List.map_map]; rfl
theorem mem_tP {w : List Nat} {ws : List (List Nat)} : (sT w ∈ ws.map sT) = (w ∈ ws) := by
  rw [eq_iff_iff, List.mem_map]
  constructor
  · rintro ⟨x, hx, e⟩
    rw [sT_inj] at e
    rw [← e]; exact hx
  · exact fun hx => ⟨w, hx, rfl⟩
theorem eq_tPs {a b : List (List Nat)} : (a.map sT = b.map sT) = (a = b) := by
  rw [eq_iff_iff]
  constructor
  · intro e
    exact List.map_inj_right (fun x y h => by rwa [sT_inj] at h) |>.mp e
  · intro e; rw [e]
theorem tx_map {ws : List (List Nat)} (g : ∀ w ∈ ws, w.all sgB = true) : ∀ n ∈ ws.map sT, txB n = true := by
  intro n hn
  obtain ⟨w, hw, rfl⟩ := List.mem_map.mp hn
  rw [tx_sT]; exact g w hw
theorem eq_tP {a b : List (List Nat)} (l : ∀ w ∈ a, w.all sgB = true) (l' : ∀ w ∈ b, w.all sgB = true) : pEqB (.tup (a.map tP)) (.tup (b.map tP)) = some (decide (a = b)) := by
  rw [map_tP, map_tP, eq_strs (tx_map l) (tx_map l')]
  congr 1; rw [Bool.eq_iff_iff, decide_eq_true_eq, decide_eq_true_eq, eq_tPs]
theorem eq_tPL {a b : List (List Nat)} (l : ∀ w ∈ a, w.all sgB = true) (l' : ∀ w ∈ b, w.all sgB = true) : pEqB (.lst (a.map tP)) (.lst (b.map tP)) = some (decide (a = b)) := by
  rw [map_tP, map_tP, eq_strsL (tx_map l) (tx_map l')]
  congr 1; rw [Bool.eq_iff_iff, decide_eq_true_eq, decide_eq_true_eq, eq_tPs]
theorem pin_tP {w : List Nat} {ws : List (List Nat)} : pInB (.str (sT w)) (.tup (ws.map tP)) = some (decide (w ∈ ws)) := by
  rw [map_tP, pin_strs]
  congr 1; rw [Bool.eq_iff_iff, decide_eq_true_eq, decide_eq_true_eq, mem_tP]
theorem pin_tPL {w : List Nat} {ws : List (List Nat)} : pInB (.str (sT w)) (.lst (ws.map tP)) = some (decide (w ∈ ws)) := by
  rw [map_tP, pin_strsL]
  congr 1; rw [Bool.eq_iff_iff, decide_eq_true_eq, decide_eq_true_eq, mem_tP]
/-! while loops by hand -/
theorem wh_1 {C : MT} {B : MS} {σ σ1 σ2 : PSt} {h h1 h2 : PH} {e : EV} (c : C σ h = .ok true σ1 h1) (b : B σ1 h1 = .rt e σ2 h2) : mWh C B σ h = .rt e σ2 h2 := by
  refine wh_ind (m := 0) (fun _ s g => s = σ ∧ g = h) (fun r => r = .rt e σ2 h2) ⟨rfl, rfl⟩ (by omega) ?_
  rintro m s g k ⟨rfl, rfl⟩ _
  rw [c]
  show (B σ1 h1).loop k = _
  rw [b]; rfl
end PP
set_option Elab.async false
set_option linter.all false
set_option maxRecDepth 100000
set_option maxHeartbeats 1000000
namespace PP
open PySem PySem.Spec PyProof.Rows L2
/-! ### a field as one of several targets; text.split(sign) -/
def tFk3 (tf : Str → Bool) (f : Str) (p : PV) (a : Addr) (σ : PSt) (h : PH) : Option PO → Rs Unit
  | some (.ins C fs) => if tf C = true ∧ fs.length < 1000 then .ok () σ (updP h a (.ins C (putFP f p fs))) else .stk
  | _ => .stk
def tFk (tf : Str → Bool) (f : Str) (p : PV) : EV → PSt → PH → Rs Unit
  | .val (.ref a), σ, h => tFk3 tf f p a σ h (h a)
  | _, _, _ => .stk
def tF (tf : Str → Bool) (f : Str) (A : ME) : MG := fun p σ h => (A σ h).noex.bind (tFk tf f p)
theorem tf_1 {tf : Str → Bool} {f : Str} {A : ME} {p : PV} {σ : PSt} {h : PH} : tF tf f A p σ h = (A σ h).noex.bind (tFk tf f p) := (rfl)
theorem tf_2 {tf : Str → Bool} {f : Str} {p : PV} {a : Addr} {σ : PSt} {h : PH} : tFk tf f p (.val (.ref a)) σ h = tFk3 tf f p a σ h (h a) := (rfl)
theorem tf_3 {tf : Str → Bool} {f C : Str} {fs : List (Str × PV)} {p : PV} {a : Addr} {σ : PSt} {h : PH} : tFk3 tf f p a σ h (some (.ins C fs)) = if tf C = true ∧ fs.length < 1000 then .ok () σ (updP h a (.ins C (putFP f p fs))) else .stk := (rfl)
section
variable {S : Sc} {tg : Expr} {ix : List Nat} {A : ME} {f : Str} {tf : Str → Bool}
theorem x_gF (a : JG S tg ix (gF S.K f (up A))) (ht : ∀ C, tf C = true → CF S.K C f) : JG S tg ix (upG (tF tf f A)) := a.le upG_mono fun p σ h Q q => wp_noex (wpm (wpb q) fun eo σ1 h1 q => by
  have q : wp (tFk tf f p eo σ1 h1) (fun _ σ h => Q σ h) (fun _ _ _ => False) := q
  unfold tFk at q
  split at q
  · rename_i ad q0
    unfold tFk3 at q
    split at q
    · rename_i C fs ea
      split at q
      · rename_i c
        exact ⟨ad, C, fs, rfl, ea, ht C c.1, c.2, q⟩
      · exact q.elim
    · exact q.elim
  · exact q.elim)
end
def gSplit : Str → List PV → Option EV := fun a ps => match ps with
  | [.str b] => if (b.length == 0) = false ∧ a.length + 2 ≤ sizeLine then some (.own (.lst ((Txt.split a b).map .str))) else none
  | _ => none
theorem RpL.ofStrs {K : PySem.W.Frag} {H : Hp} {F : Addr → Prop} : ∀ ns : List Str, RpL K H F (ns.map PV.str) (ns.map V.str)
  | [] => .nil
  | _ :: ns => .cons (.str _) (RpL.ofStrs ns)
theorem mt_spl {S : Sc} : MetS S "split" "str.split" gSplit where
  slot := PySem.F.slot_str_split
  hty := PySem.F.type_str_split
  run := fun X A => ⟨_, mt_split, fun F σp h σ H a ps vs ez QV s rl eg k => by
    unfold gSplit at eg
    split at eg
    · rename_i b
      split at eg
      · rename_i c
        obtain ⟨v, rfl, r⟩ := rl.one
        cases eg
        rw [r.str]
        exact ⟨a, b, rfl, rfl, c.1, c.2, fun p n => k F _ _ (.new n) (RS.new (o := .lst ((Txt.split a b).map .str)) s n ⟨_, rfl, .ofStrs _⟩ rfl)⟩
      · cases eg
    · cases eg⟩
theorem spl_eq {a b : Str} : gSplit a [.str b] = if (b.length == 0) = false ∧ a.length + 2 ≤ sizeLine then some (.own (.lst ((Txt.split a b).map .str))) else none := (rfl)
end PP
set_option Elab.async false
set_option linter.all false
set_option maxRecDepth 100000
set_option maxHeartbeats 1000000
namespace k05
open PySem PySem.Spec PyProof.Rows L2 PP
abbrev Ln := List Nat
/-- whole lines and the half line behind them -/
def sp (here : Ln) : List Nat → List Ln × Ln
  | [] => ([], here)
  | c :: cs => if c = 10 then (here :: (sp [] cs).1, (sp [] cs).2) else sp (here ++ [c]) cs
/-! text.split -/
section
open StrLaws Builtin.Str
theorem occ_all (x : Str) (c n : Nat) : ∀ (l : List Nat) (acc : Array Nat) (free : Nat), (∀ i ∈ l, free ≤ i) → l.Pairwise (· < ·) → acc.size + l.length ≤ n →
    (forIn l (acc, free) (occBody x ⟨#[c]⟩ x.length n)).run.fst.toList = acc.toList ++ l.filter fun i => decide (x.cps.toList[i]? = some c)
  | [], acc, free, _, _, _ => by simp
  | a :: l, acc, free, hf, hp, hn => by
    rw [List.forIn_cons]
    unfold occBody
    obtain ⟨p1, p2⟩ := List.pairwise_cons.mp hp
    have ha : free ≤ a := hf a (List.mem_cons_self ..)
    simp only [List.length_cons] at hn
    by_cases hc : x.cps.toList[a]? = some c
    · have q := (subAt_one x c a).mpr hc
      rw [if_pos ⟨⟨⟨by simp only; omega, ha⟩, q.1⟩, q.2⟩, List.filter_cons_of_pos (by simpa using hc)]
      show (forIn l (acc.push a, a + (⟨#[c]⟩ : Str).length) (occBody x ⟨#[c]⟩ x.length n)).run.fst.toList = _
      rw [occ_all x c n l (acc.push a) _ (fun i hi => by have := p1 i hi; show a + 1 ≤ i; omega) p2 (by simp; omega)]
      simp
    · have nq : ¬ ((((acc, free).fst.size < n ∧ (acc, free).snd ≤ a) ∧ a + (⟨#[c]⟩ : Str).length ≤ x.length) ∧ subAt x ⟨#[c]⟩ a = true) := fun z => hc ((subAt_one x c a).mp ⟨z.1.2, z.2⟩)
      rw [if_neg nq, List.filter_cons_of_neg (by simpa using hc)]
      exact occ_all x c n l acc free (fun i hi' => hf i (List.mem_cons_of_mem _ hi')) p2 (by omega)
theorem occs {cs : List Nat} {c : Nat} : occurrences (sT cs) ⟨#[c]⟩ 0 (sT cs).length ((sT cs).length + 1) = (List.range' 0 (cs.length + 1)).filter fun i => decide (cs[i]? = some c) := by
  rw [occ_eq, occ_all _ _ _ _ _ _ (fun _ _ => Nat.zero_le _) List.pairwise_lt_range' (by simp)]
  rw [sT_len]; rfl
theorem sub_sT {cs : List Nat} {i j : Nat} : strSub (sT cs) i j = sT ((cs.drop i).take (j - i)) := by
  unfold strSub sT
  congr 1
  apply Array.ext'
  simp [List.extract_eq_take_drop, List.take_drop]
theorem kind_1 {x : Str} : ¬ Builtin.Str.strKind x < Builtin.Str.strKind ⟨#[10]⟩ := by
  have e : Builtin.Str.strKind ⟨#[10]⟩ = 1 := by decide +kernel
  rw [e]
  unfold Builtin.Str.strKind
  split
  · omega
  · split <;> omega
theorem parts {cs : List Nat} : ∀ (suf : List Nat) (k a : Nat), cs.drop k = suf → a ≤ k → k + suf.length = cs.length →
    ((a :: ((List.range' k (suf.length + 1)).filter fun i => decide (cs[i]? = some 10)).map (· + 1)).zip (((List.range' k (suf.length + 1)).filter fun i => decide (cs[i]? = some 10)) ++ [cs.length])).map (fun x => strSub (sT cs) x.1 x.2)
      = ((sp ((cs.drop a).take (k - a)) suf).1 ++ [(sp ((cs.drop a).take (k - a)) suf).2]).map sT
  | [], k, a, hd, ha, hk => by
    have kn : k = cs.length := by simpa using hk
    subst kn
    have e : (List.range' cs.length ([] : List Nat).length.succ).filter (fun i => decide (cs[i]? = some 10)) = [] := by
      simp
    rw [e, sp]
    simp [sub_sT]
  | c :: suf, k, a, hd, ha, hk => by
    simp only [List.length_cons] at hk
    have h1 : k < cs.length := by omega
    have h2 := List.drop_eq_getElem_cons h1
    rw [hd] at h2
    cases h2
    have d2 : cs.drop (k + 1) = cs.drop (k + 1) := rfl
    have hc : cs[k]? = some cs[k] := List.getElem?_eq_getElem h1
    rw [List.length_cons, List.range'_succ, sp]
    by_cases q : cs[k] = 10
    · have ih := parts (cs := cs) (cs.drop (k + 1)) (k + 1) (k + 1) rfl (Nat.le_refl _) (by simp; omega)
      rw [List.filter_cons_of_pos (by rw [hc, q]; simp), if_pos q, List.map_cons, List.cons_append, List.zip_cons_cons, List.map_cons, ih, Nat.sub_self, List.take_zero, sub_sT]
      simp
    · have ih := parts (cs := cs) (cs.drop (k + 1)) (k + 1) a rfl (by omega) (by simp; omega)
      rw [List.filter_cons_of_neg (by rw [hc]; simpa using q), if_neg q, ih]
      have e : (cs.drop a).take (k + 1 - a) = (cs.drop a).take (k - a) ++ [cs[k]] := by
        rw [show k + 1 - a = (k - a) + 1 by omega, List.take_add_one]
        congr 1
        rw [List.getElem?_drop, show a + (k - a) = k by omega, hc]; rfl
      rw [e]
theorem split_sT {cs : List Nat} : Txt.split (sT cs) ⟨#[10]⟩ = ((sp [] cs).1 ++ [(sp [] cs).2]).map sT := by
  have P := parts (cs := cs) cs 0 0 rfl (Nat.le_refl _) (by simp)
  rw [Nat.sub_self, List.take_zero] at P
  unfold Txt.split
  rw [occs]
  have l1 : (⟨#[10]⟩ : Str).length = 1 := rfl
  by_cases e : cs = []
  · subst e
    rw [if_pos (by rw [l1]; simp; exact .inl (by decide))]; rfl
  · have n1 : 1 ≤ cs.length := by
      cases cs with
      | nil => exact absurd rfl e
      | cons a b => simp
    rw [if_neg (by rw [l1, sT_len]; simp only [Bool.or_eq_true, decide_eq_true_eq]; exact fun z => z.elim (by omega) kind_1)]
    by_cases f : ((List.range' 0 (cs.length + 1)).filter fun i => decide (cs[i]? = some 10)).isEmpty = true
    · rw [if_pos f]
      rw [List.isEmpty_iff.mp f] at P
      rw [← P]
      simp [sub_sT]
    · rw [if_neg f]
      unfold partsBetween
      rw [← P, l1, sT_len]
end
/-! joined again -/
def jn (ls : List Ln) : Ln := ls.flatMap fun l => l ++ [10]
theorem sp_jn : ∀ (cs : List Nat) (here : Ln), jn (sp here cs).1 ++ (sp here cs).2 = here ++ cs
  | [], here => by rw [sp]; simp [jn]
  | c :: cs, here => by
    rw [sp]
    by_cases q : c = 10
    · rw [if_pos q]
      have := sp_jn cs []
      simp only [List.nil_append] at this
      show here ++ [10] ++ jn (sp [] cs).1 ++ _ = _
      rw [List.append_assoc, this, q]; simp
    · rw [if_neg q, sp_jn cs (here ++ [c])]; simp
theorem sp_mem : ∀ (cs : List Nat) (here : Ln), (∀ l ∈ (sp here cs).1, ∀ c ∈ l, c ∈ here ∨ c ∈ cs ∧ c ≠ 10) ∧ ∀ c ∈ (sp here cs).2, c ∈ here ∨ c ∈ cs ∧ c ≠ 10
  | [], here => by rw [sp]; exact ⟨by simp, fun c hc => .inl hc⟩
  | d :: cs, here => by
    rw [sp]
    by_cases q : d = 10
    · rw [if_pos q]
      obtain ⟨a, b⟩ := sp_mem cs []
      refine ⟨fun l hl c hc => ?_, fun c hc => ?_⟩
      · rcases List.mem_cons.mp hl with rfl | hl
        · exact .inl hc
        · rcases a l hl c hc with z | z
          · cases z
          · exact .inr ⟨List.mem_cons_of_mem _ z.1, z.2⟩
      · rcases b c hc with z | z
        · cases z
        · exact .inr ⟨List.mem_cons_of_mem _ z.1, z.2⟩
    · rw [if_neg q]
      obtain ⟨a, b⟩ := sp_mem cs (here ++ [d])
      refine ⟨fun l hl c hc => ?_, fun c hc => ?_⟩
      · rcases a l hl c hc with z | z
        · rcases List.mem_append.mp z with z | z
          · exact .inl z
          · simp at z; subst z; exact .inr ⟨List.mem_cons_self, q⟩
        · exact .inr ⟨List.mem_cons_of_mem _ z.1, z.2⟩
      · rcases b c hc with z | z
        · rcases List.mem_append.mp z with z | z
          · exact .inl z
          · simp at z; subst z; exact .inr ⟨List.mem_cons_self, q⟩
        · exact .inr ⟨List.mem_cons_of_mem _ z.1, z.2⟩
theorem sp_len : ∀ (cs : List Nat) (here : Ln), (sp here cs).1.length ≤ cs.length ∧ (∀ l ∈ (sp here cs).1, l.length ≤ here.length + cs.length) ∧ (sp here cs).2.length ≤ here.length + cs.length
  | [], here => by rw [sp]; simp
  | d :: cs, here => by
    rw [sp]
    by_cases q : d = 10
    · rw [if_pos q]
      obtain ⟨a, b, c⟩ := sp_len cs []
      refine ⟨by simp; omega, fun l hl => ?_, by simp at c ⊢; omega⟩
      rcases List.mem_cons.mp hl with rfl | hl
      · simp
      · have := b l hl; simp at this ⊢; omega
    · rw [if_neg q]
      obtain ⟨a, b, c⟩ := sp_len cs (here ++ [d])
      exact ⟨by simp; omega, fun l hl => by have := b l hl; simp at this ⊢; omega, by simp at c ⊢; omega⟩
/-! a feeder -/
abbrev Cl := Ln × Bool
def fd (m : Nat) (r : Ln) (c : Bool) : List Nat → List Cl × Cl
  | [] => ([], (r, c))
  | s :: cs => if s = 10 then ((r, c) :: (fd m [] false cs).1, (fd m [] false cs).2) else if r.length < m then fd m (r ++ [s]) c cs else fd m r true cs
theorem fd_app (m : Nat) : ∀ (a b : List Nat) (r : Ln) (c : Bool), fd m r c (a ++ b) = ((fd m r c a).1 ++ (fd m (fd m r c a).2.1 (fd m r c a).2.2 b).1, (fd m (fd m r c a).2.1 (fd m r c a).2.2 b).2)
  | [], b, r, c => by rw [fd, List.nil_append]; simp
  | s :: a, b, r, c => by
    rw [List.cons_append, fd, fd]
    by_cases q : s = 10
    · rw [if_pos q, if_pos q, fd_app m a b [] false]; rfl
    · rw [if_neg q, if_neg q]
      by_cases w : r.length < m
      · rw [if_pos w, if_pos w, fd_app m a b (r ++ [s]) c]
      · rw [if_neg w, if_neg w, fd_app m a b r true]
theorem fd_len (m : Nat) : ∀ (cs : List Nat) (r : Ln) (c : Bool), (fd m r c cs).1.length ≤ cs.length ∧ (fd m r c cs).2.1.length ≤ r.length + cs.length
  | [], r, c => by rw [fd]; simp
  | s :: cs, r, c => by
    rw [fd]
    by_cases q : s = 10
    · rw [if_pos q]
      obtain ⟨a, b⟩ := fd_len m cs [] false
      exact ⟨by simp; omega, by simp at b ⊢; omega⟩
    · rw [if_neg q]
      split
      · obtain ⟨a, b⟩ := fd_len m cs (r ++ [s]) c
        exact ⟨by simp; omega, by simp at b ⊢; omega⟩
      · obtain ⟨a, b⟩ := fd_len m cs r true
        exact ⟨by simp; omega, by simp at b ⊢; omega⟩
def cl (m : Nat) (l : Ln) : Cl := (l.take m, decide (m < l.length))
theorem fd_sp (m : Nat) : ∀ (cs : List Nat) (here : Ln), fd m (cl m here).1 (cl m here).2 cs = ((sp here cs).1.map (cl m), cl m (sp here cs).2)
  | [], here => rfl
  | s :: cs, here => by
    rw [fd, sp]
    by_cases q : s = 10
    · rw [if_pos q, if_pos q]
      have e := fd_sp m cs []
      have e0 : cl m [] = ([], false) := by unfold cl; simp
      rw [e0] at e
      rw [e]; rfl
    · rw [if_neg q, if_neg q]
      have e := fd_sp m cs (here ++ [s])
      by_cases w : here.length < m
      · have e1 : cl m (here ++ [s]) = ((cl m here).1 ++ [s], (cl m here).2) := by
          unfold cl
          rw [List.take_of_length_le (by simp; omega), List.take_of_length_le (by omega)]
          congr 1
          simp; omega
        rw [e1] at e
        rw [if_pos (by unfold cl; simp; omega), e]
      · have e1 : cl m (here ++ [s]) = ((cl m here).1, true) := by
          unfold cl
          rw [List.take_append_of_le_length (by omega)]
          congr 1
          simp; omega
        rw [e1] at e
        rw [if_neg (by unfold cl; simp; omega), e]
end k05
set_option Elab.async false
set_option linter.all false
set_option maxRecDepth 100000
set_option maxHeartbeats 4000000
namespace k05
open PySem PySem.Spec PyProof.Rows L2 PP

def tb_BadLine : Tb := fun x => if x = "BadLine" then some true else none
theorem tb_BadLine_BadLine : tb_BadLine "BadLine" = some true := by decide
def ti_ValueError : Tb := fun x => if x = "BadLine" then some true else none
theorem ti_ValueError_BadLine : ti_ValueError "BadLine" = some true := by decide
def cf_cut : Str → Bool := fun x => decide (x = "Feeder")
theorem cf_cut_Feeder : cf_cut "Feeder" = true := by decide
def cf_most : Str → Bool := fun x => decide (x = "Feeder")
theorem cf_most_Feeder : cf_most "Feeder" = true := by decide
def cf_rest : Str → Bool := fun x => decide (x = "Feeder")
theorem cf_rest_Feeder : cf_rest "Feeder" = true := by decide
theorem pf_Feeder_most_0 { v : PV} : putFP "most" v ([] : List (Str × PV)) = ([("most", v)] : List (Str × PV)) := by kernel_rfl
theorem lk_Feeder_feed_0 : List.lookup ("feed" : Str) ([] : List (Str × PV)) = none := by kernel_rfl
theorem lk_Feeder_end_0 : List.lookup ("end" : Str) ([] : List (Str × PV)) = none := by kernel_rfl
theorem lk_Feeder_most_1 {x0 : PV} : List.lookup ("most" : Str) ([("most", x0)] : List (Str × PV)) = some x0 := by kernel_rfl
theorem pf_Feeder_most_1 {x0 v : PV} : putFP "most" v ([("most", x0)] : List (Str × PV)) = ([("most", v)] : List (Str × PV)) := by kernel_rfl
theorem pf_Feeder_rest_1 {x0 v : PV} : putFP "rest" v ([("most", x0)] : List (Str × PV)) = ([("most", x0), ("rest", v)] : List (Str × PV)) := by kernel_rfl
theorem lk_Feeder_feed_1 {x0 : PV} : List.lookup ("feed" : Str) ([("most", x0)] : List (Str × PV)) = none := by kernel_rfl
theorem lk_Feeder_end_1 {x0 : PV} : List.lookup ("end" : Str) ([("most", x0)] : List (Str × PV)) = none := by kernel_rfl
theorem lk_Feeder_most_2 {x0 x1 : PV} : List.lookup ("most" : Str) ([("most", x0), ("rest", x1)] : List (Str × PV)) = some x0 := by kernel_rfl
theorem pf_Feeder_most_2 {x0 x1 v : PV} : putFP "most" v ([("most", x0), ("rest", x1)] : List (Str × PV)) = ([("most", v), ("rest", x1)] : List (Str × PV)) := by kernel_rfl
theorem lk_Feeder_rest_2 {x0 x1 : PV} : List.lookup ("rest" : Str) ([("most", x0), ("rest", x1)] : List (Str × PV)) = some x1 := by kernel_rfl
theorem pf_Feeder_rest_2 {x0 x1 v : PV} : putFP "rest" v ([("most", x0), ("rest", x1)] : List (Str × PV)) = ([("most", x0), ("rest", v)] : List (Str × PV)) := by kernel_rfl
theorem pf_Feeder_cut_2 {x0 x1 v : PV} : putFP "cut" v ([("most", x0), ("rest", x1)] : List (Str × PV)) = ([("most", x0), ("rest", x1), ("cut", v)] : List (Str × PV)) := by kernel_rfl
theorem lk_Feeder_feed_2 {x0 x1 : PV} : List.lookup ("feed" : Str) ([("most", x0), ("rest", x1)] : List (Str × PV)) = none := by kernel_rfl
theorem lk_Feeder_end_2 {x0 x1 : PV} : List.lookup ("end" : Str) ([("most", x0), ("rest", x1)] : List (Str × PV)) = none := by kernel_rfl
theorem lk_Feeder_most_3 {x0 x1 x2 : PV} : List.lookup ("most" : Str) ([("most", x0), ("rest", x1), ("cut", x2)] : List (Str × PV)) = some x0 := by kernel_rfl
theorem pf_Feeder_most_3 {x0 x1 x2 v : PV} : putFP "most" v ([("most", x0), ("rest", x1), ("cut", x2)] : List (Str × PV)) = ([("most", v), ("rest", x1), ("cut", x2)] : List (Str × PV)) := by kernel_rfl
theorem lk_Feeder_rest_3 {x0 x1 x2 : PV} : List.lookup ("rest" : Str) ([("most", x0), ("rest", x1), ("cut", x2)] : List (Str × PV)) = some x1 := by kernel_rfl
theorem pf_Feeder_rest_3 {x0 x1 x2 v : PV} : putFP "rest" v ([("most", x0), ("rest", x1), ("cut", x2)] : List (Str × PV)) = ([("most", x0), ("rest", v), ("cut", x2)] : List (Str × PV)) := by kernel_rfl
theorem lk_Feeder_cut_3 {x0 x1 x2 : PV} : List.lookup ("cut" : Str) ([("most", x0), ("rest", x1), ("cut", x2)] : List (Str × PV)) = some x2 := by kernel_rfl
theorem pf_Feeder_cut_3 {x0 x1 x2 v : PV} : putFP "cut" v ([("most", x0), ("rest", x1), ("cut", x2)] : List (Str × PV)) = ([("most", x0), ("rest", x1), ("cut", v)] : List (Str × PV)) := by kernel_rfl
theorem lk_Feeder_feed_3 {x0 x1 x2 : PV} : List.lookup ("feed" : Str) ([("most", x0), ("rest", x1), ("cut", x2)] : List (Str × PV)) = none := by kernel_rfl
theorem lk_Feeder_end_3 {x0 x1 x2 : PV} : List.lookup ("end" : Str) ([("most", x0), ("rest", x1), ("cut", x2)] : List (Str × PV)) = none := by kernel_rfl
/-! look_at_line(value) -/
def N_look_at_line : List Str := ["value"]
def R_look_at_line : MS :=
  (mIf (rNotT (rTru (rCall 1 F_is_line [] (rCons (rV 0) rNil)))) (mRaise ⟨"BadLine", []⟩ (rCons (rC (.str "line")) rNil)) mNx)
@[irreducible] def F_look_at_line : FN := runF N_look_at_line R_look_at_line
theorem F_look_at_line_def : F_look_at_line = runF N_look_at_line R_look_at_line := by unfold F_look_at_line; rfl
theorem u_look_at_line {a0 : PV} {h : PH} : F_look_at_line [a0] h = toF (R_look_at_line [some (.val a0)] h) := by rw [F_look_at_line_def]; rfl
/-! look_at_lines(value) -/
def N_look_at_lines : List Str := ["value", "one"]
def R_look_at_lines : MS :=
  (mIf (rOrT (rNotT (rTru (rB gIsi (rCons (rV 0) (rCons (rC (.cst (.ty "tuple"))) rNil))))) (rNotT (rTru (rB gAll (rCons (rLc (rSeqI (rV 0)) (tN 1) rYes (rCall 1 F_is_line [] (rCons (rV 1) rNil)) [1]) rNil))))) (mRaise ⟨"BadLine", []⟩ (rCons (rC (.str "lines")) rNil)) mNx)
@[irreducible] def F_look_at_lines : FN := runF N_look_at_lines R_look_at_lines
theorem F_look_at_lines_def : F_look_at_lines = runF N_look_at_lines R_look_at_lines := by unfold F_look_at_lines; rfl
theorem u_look_at_lines {a0 : PV} {h : PH} : F_look_at_lines [a0] h = toF (R_look_at_lines [some (.val a0), none] h) := by rw [F_look_at_lines_def]; rfl
/-! split_lines(text) -/
def N_split_lines : List Str := ["text", "parts"]
def R_split_lines : MS :=
  (mSeq (mIf (rNotT (rTru (rCall 1 F_is_text [] (rCons (rV 0) rNil)))) (mRaise ⟨"BadLine", []⟩ (rCons (rC (.str "text")) rNil)) mNx)
    (mSeq (mSet 1 (rMet gSplit (rV 0) (rCons (rC (.str "\n")) rNil)))
    (mRet (rTup (rCons (rB gTupC (rCons (rSl (rV 1) rO0 (rO1 (rNeg (rC (.int 1))))) rNil)) (rCons (r2 gIx (rV 1) (rNeg (rC (.int 1)))) rNil))))))
@[irreducible] def F_split_lines : FN := runF N_split_lines R_split_lines
theorem F_split_lines_def : F_split_lines = runF N_split_lines R_split_lines := by unfold F_split_lines; rfl
theorem u_split_lines {a0 : PV} {h : PH} : F_split_lines [a0] h = toF (R_split_lines [some (.val a0), none] h) := by rw [F_split_lines_def]; rfl
/-! join_lines(lines, rest) -/
def N_join_lines : List Str := ["lines", "rest", "line"]
def R_join_lines : MS :=
  (mSeq (mDrop (rCall 1 F_look_at_lines [] (rCons (rV 0) rNil)))
    (mSeq (mDrop (rCall 1 F_look_at_line [] (rCons (rV 1) rNil)))
    (mRet (r2 gAdd (rMet gJoin (rC (.str "")) (rCons (rLc (rSeqI (rV 0)) (tN 2) rYes (r2 gAdd (rV 2) (rC (.str "\n"))) [2]) rNil)) (rV 1)))))
@[irreducible] def F_join_lines : FN := runF N_join_lines R_join_lines
theorem F_join_lines_def : F_join_lines = runF N_join_lines R_join_lines := by unfold F_join_lines; rfl
theorem u_join_lines {a0 a1 : PV} {h : PH} : F_join_lines [a0, a1] h = toF (R_join_lines [some (.val a0), some (.val a1), none] h) := by rw [F_join_lines_def]; rfl
/-! longest(lines) -/
def N_longest : List Str := ["lines", "line"]
def R_longest : MS :=
  (mSeq (mDrop (rCall 1 F_look_at_lines [] (rCons (rV 0) rNil)))
    (mRet (rB gMax (rCons (r2 gAdd (rLst (rCons (rC (.int 0)) rNil)) (rLc (rSeqI (rV 0)) (tN 1) rYes (rB gLen (rCons (rV 1) rNil)) [1])) rNil))))
@[irreducible] def F_longest : FN := runF N_longest R_longest
theorem F_longest_def : F_longest = runF N_longest R_longest := by unfold F_longest; rfl
theorem u_longest {a0 : PV} {h : PH} : F_longest [a0] h = toF (R_longest [some (.val a0), none] h) := by rw [F_longest_def]; rfl
/-! _law_line(draws, most, signs) -/
def N__law_line : List Str := ["draws", "most", "signs", "k"]
def R__law_line : MS :=
  (mRet (rMet gJoin (rC (.str "")) (rCons (rLc (rRng1 (rCons (rCall 2 F__law_draw [] (rCons (rV 0) (rCons (rV 1) rNil))) rNil)) (tN 3) rYes (r2 gIx (rV 2) (rCall 2 F__law_draw [] (rCons (rV 0) (rCons (rB gLen (rCons (rV 2) rNil)) rNil)))) [3]) rNil)))
@[irreducible] def F__law_line : FN := runF N__law_line R__law_line
theorem F__law_line_def : F__law_line = runF N__law_line R__law_line := by unfold F__law_line; rfl
theorem u__law_line {a0 a1 a2 : PV} {h : PH} : F__law_line [a0, a1, a2] h = toF (R__law_line [some (.val a0), some (.val a1), some (.val a2), none] h) := by rw [F__law_line_def]; rfl
/-! _law_split(text) -/
def N__law_split : List Str := ["text", "lines", "here", "sign"]
@[irreducible] def B__law_split_0 : MS :=
  (mIf (rTb (r2 gEq (rV 3) (rC (.str "\n")))) (mSeq (mDrop (rMut gApp (rV 1) (rCons (rV 2) rNil)))
    (mSet 2 (rC (.str "")))) (mSet 2 (r2 gAdd (rV 2) (rV 3))))
theorem B__law_split_0_eq {σ : PSt} {h : PH} : B__law_split_0 σ h = (mIf (rTb (r2 gEq (rV 3) (rC (.str "\n")))) (mSeq (mDrop (rMut gApp (rV 1) (rCons (rV 2) rNil)))
    (mSet 2 (rC (.str "")))) (mSet 2 (r2 gAdd (rV 2) (rV 3)))) σ h := by unfold B__law_split_0; rfl
def R__law_split : MS :=
  (mSeq (mPar [1, 2] (rCons2 (rLst rNil) (rCons2 (rC (.str "")) rNil)))
    (mSeq (mFor (rSeqI (rV 0)) (tN 3) B__law_split_0)
    (mRet (rTup (rCons (rB gTupC (rCons (rV 1) rNil)) (rCons (rV 2) rNil))))))
@[irreducible] def F__law_split : FN := runF N__law_split R__law_split
theorem F__law_split_def : F__law_split = runF N__law_split R__law_split := by unfold F__law_split; rfl
theorem u__law_split {a0 : PV} {h : PH} : F__law_split [a0] h = toF (R__law_split [some (.val a0), none, none, none] h) := by rw [F__law_split_def]; rfl
/-! Feeder___init__(self, most) -/
def N_Feeder___init__ : List Str := ["self", "most"]
def R_Feeder___init__ : MS :=
  (mSeq (mIf (rOrT (rNotT (rTru (rCall 1 F_is_integer [] (rCons (rV 1) rNil)))) (rTb (r2 gLt (rV 1) (rC (.int 1))))) (mRaise ⟨"BadLine", []⟩ (rCons (rC (.str "most")) rNil)) mNx)
    (mSeq (mFst cf_most "most" (rV 1) (rV 0))
    (mSeq (mFst cf_rest "rest" (rC (.str "")) (rV 0))
    (mFst cf_cut "cut" (rC (.bl false)) (rV 0)))))
@[irreducible] def F_Feeder___init__ : FN := runF N_Feeder___init__ R_Feeder___init__
theorem F_Feeder___init___def : F_Feeder___init__ = runF N_Feeder___init__ R_Feeder___init__ := by unfold F_Feeder___init__; rfl
theorem u_Feeder___init__ {a0 a1 : PV} {h : PH} : F_Feeder___init__ [a0, a1] h = toF (R_Feeder___init__ [some (.val a0), some (.val a1)] h) := by rw [F_Feeder___init___def]; rfl
/-! Feeder_feed(self, text) -/
def N_Feeder_feed : List Str := ["self", "text", "found", "sign"]
@[irreducible] def B_feed_0 : MS :=
  (mIf (rTb (r2 gEq (rV 3) (rC (.str "\n")))) (mSeq (mDrop (rMut gApp (rV 2) (rCons (rTup (rCons (rFld cf_rest "rest" (rV 0)) (rCons (rFld cf_cut "cut" (rV 0)) rNil))) rNil)))
    (mAsg (rTup (rCons (rC (.str "")) (rCons (rC (.bl false)) rNil))) (tT 2 (tTc (tF cf_rest "rest" (rV 0)) (tTc (tF cf_cut "cut" (rV 0)) tT0))))) (mIf (rTb (r2 gLt (rB gLen (rCons (rFld cf_rest "rest" (rV 0)) rNil)) (rFld cf_most "most" (rV 0)))) (mFst cf_rest "rest" (r2 gAdd (rFld cf_rest "rest" (rV 0)) (rV 3)) (rV 0)) (mFst cf_cut "cut" (rC (.bl true)) (rV 0))))
theorem B_feed_0_eq {σ : PSt} {h : PH} : B_feed_0 σ h = (mIf (rTb (r2 gEq (rV 3) (rC (.str "\n")))) (mSeq (mDrop (rMut gApp (rV 2) (rCons (rTup (rCons (rFld cf_rest "rest" (rV 0)) (rCons (rFld cf_cut "cut" (rV 0)) rNil))) rNil)))
    (mAsg (rTup (rCons (rC (.str "")) (rCons (rC (.bl false)) rNil))) (tT 2 (tTc (tF cf_rest "rest" (rV 0)) (tTc (tF cf_cut "cut" (rV 0)) tT0))))) (mIf (rTb (r2 gLt (rB gLen (rCons (rFld cf_rest "rest" (rV 0)) rNil)) (rFld cf_most "most" (rV 0)))) (mFst cf_rest "rest" (r2 gAdd (rFld cf_rest "rest" (rV 0)) (rV 3)) (rV 0)) (mFst cf_cut "cut" (rC (.bl true)) (rV 0)))) σ h := by unfold B_feed_0; rfl
def R_Feeder_feed : MS :=
  (mSeq (mIf (rNotT (rTru (rCall 1 F_is_text [] (rCons (rV 1) rNil)))) (mRaise ⟨"BadLine", []⟩ (rCons (rC (.str "text")) rNil)) mNx)
    (mSeq (mSet 2 (rLst rNil))
    (mSeq (mFor (rSeqI (rV 1)) (tN 3) B_feed_0)
    (mRet (rB gTupC (rCons (rV 2) rNil))))))
@[irreducible] def F_Feeder_feed : FN := runF N_Feeder_feed R_Feeder_feed
theorem F_Feeder_feed_def : F_Feeder_feed = runF N_Feeder_feed R_Feeder_feed := by unfold F_Feeder_feed; rfl
theorem u_Feeder_feed {a0 a1 : PV} {h : PH} : F_Feeder_feed [a0, a1] h = toF (R_Feeder_feed [some (.val a0), some (.val a1), none, none] h) := by rw [F_Feeder_feed_def]; rfl
/-! _law_refused(which, value) -/
def N__law_refused : List Str := ["which", "value", "e"]
def R__law_refused : MS :=
  (mSeq (mTry tb_BadLine 2 (mIf (rTb (r2 gEq (rV 0) (rC (.int 0)))) (mDrop (rCall 1 F_split_lines [] (rCons (rV 1) rNil))) (mIf (rTb (r2 gEq (rV 0) (rC (.int 1)))) (mDrop (rCall 1 F_join_lines [.str ""] (rCons (rV 1) rNil))) (mIf (rTb (r2 gEq (rV 0) (rC (.int 2)))) (mDrop (rCall 2 F_join_lines [] (rCons (rTup rNil) (rCons (rV 1) rNil)))) (mIf (rTb (r2 gEq (rV 0) (rC (.int 3)))) (mDrop (rNew "Feeder" 1 F_Feeder___init__ (rCons (rV 1) rNil))) (mIf (rTb (r2 gEq (rV 0) (rC (.int 4)))) (mDrop (rMth "Feeder" "feed" 1 F_Feeder_feed (rNew "Feeder" 1 F_Feeder___init__ (rCons (rC (.int 3)) rNil)) (rCons (rV 1) rNil))) (mIf (rTb (r2 gEq (rV 0) (rC (.int 5)))) (mDrop (rCall 1 F_look_at_line [] (rCons (rV 1) rNil))) (mDrop (rCall 1 F_longest [] (rCons (rV 1) rNil))))))))) (fun x => (mRet (rXI ti_ValueError x))))
    (mRet (rC (.bl false))))
@[irreducible] def F__law_refused : FN := runF N__law_refused R__law_refused
theorem F__law_refused_def : F__law_refused = runF N__law_refused R__law_refused := by unfold F__law_refused; rfl
theorem u__law_refused {a0 a1 : PV} {h : PH} : F__law_refused [a0, a1] h = toF (R__law_refused [some (.val a0), some (.val a1), none] h) := by rw [F__law_refused_def]; rfl
/-! Feeder_end(self) -/
def N_Feeder_end : List Str := ["self", "found"]
def R_Feeder_end : MS :=
  (mSeq (mIf (rAndT (rTb (r2 gEq (rFld cf_rest "rest" (rV 0)) (rC (.str "")))) (rNotT (rTru (rFld cf_cut "cut" (rV 0))))) (mRet (rC .non)) mNx)
    (mSeq (mSet 1 (rTup (rCons (rFld cf_rest "rest" (rV 0)) (rCons (rFld cf_cut "cut" (rV 0)) rNil))))
    (mSeq (mAsg (rTup (rCons (rC (.str "")) (rCons (rC (.bl false)) rNil))) (tT 2 (tTc (tF cf_rest "rest" (rV 0)) (tTc (tF cf_cut "cut" (rV 0)) tT0))))
    (mRet (rV 1)))))
@[irreducible] def F_Feeder_end : FN := runF N_Feeder_end R_Feeder_end
theorem F_Feeder_end_def : F_Feeder_end = runF N_Feeder_end R_Feeder_end := by unfold F_Feeder_end; rfl
theorem u_Feeder_end {a0 : PV} {h : PH} : F_Feeder_end [a0] h = toF (R_Feeder_end [some (.val a0), none] h) := by rw [F_Feeder_end_def]; rfl
/-! law(script) -/
def N_law : List Str := ["script", "draws", "turn", "text", "lines", "rest", "line", "most", "feeder", "told", "at", "step", "due", "last", "wrong", "pair", "value"]
@[irreducible] def B_law_0 : MS :=
  (mSeq (mSet 11 (r2 gAdd (rC (.int 1)) (rCall 2 F__law_draw [] (rCons (rV 1) (rCons (rC (.int 6)) rNil)))))
    (mSeq (mSet 9 (r2 gAdd (rV 9) (rB gLstC (rCons (rMth "Feeder" "feed" 1 F_Feeder_feed (rV 8) (rCons (rSl (rV 3) (rO1 (rV 10)) (rO1 (r2 gAdd (rV 10) (rV 11)))) rNil)) rNil))))
    (mSet 10 (r2 gAdd (rV 10) (rV 11)))))
theorem B_law_0_eq {σ : PSt} {h : PH} : B_law_0 σ h = (mSeq (mSet 11 (r2 gAdd (rC (.int 1)) (rCall 2 F__law_draw [] (rCons (rV 1) (rCons (rC (.int 6)) rNil)))))
    (mSeq (mSet 9 (r2 gAdd (rV 9) (rB gLstC (rCons (rMth "Feeder" "feed" 1 F_Feeder_feed (rV 8) (rCons (rSl (rV 3) (rO1 (rV 10)) (rO1 (r2 gAdd (rV 10) (rV 11)))) rNil)) rNil))))
    (mSet 10 (r2 gAdd (rV 10) (rV 11))))) σ h := by unfold B_law_0; rfl
@[irreducible] def C_law_1 : MT :=
  (rTb (r2 gLt (rV 10) (rB gLen (rCons (rV 3) rNil))))
theorem C_law_1_eq {σ : PSt} {h : PH} : C_law_1 σ h = (rTb (r2 gLt (rV 10) (rB gLen (rCons (rV 3) rNil)))) σ h := by unfold C_law_1; rfl
@[irreducible] def B_law_2 : MS :=
  (mSeq (mSet 3 (rCall 3 F__law_line [] (rCons (rV 1) (rCons (rC (.int 30)) (rCons (rC (.str "ab \n\\~\n")) rNil)))))
    (mSeq (mAsg (rCall 1 F__law_split [] (rCons (rV 3) rNil)) (tT 2 (tTc (tN 4) (tTc (tN 5) tT0))))
    (mSeq (mIf (rNotT (rTru (rCall 2 (F__law_same 40) [] (rCons (rLst (rCons (rCall 1 F_split_lines [] (rCons (rV 3) rNil)) (rCons (rCall 2 F_join_lines [] (rCons (rV 4) (rCons (rV 5) rNil))) (rCons (rCall 1 F_longest [] (rCons (rV 4) rNil)) rNil)))) (rCons (rLst (rCons (rTup (rCons (rV 4) (rCons (rV 5) rNil))) (rCons (rV 3) (rCons (rB gMax (rCons (r2 gAdd (rLst (rCons (rC (.int 0)) rNil)) (rLc (rSeqI (rV 4)) (tN 6) rYes (rB gLen (rCons (rV 6) rNil)) [6])) rNil)) rNil)))) rNil))))) (mRet (rC (.bl false))) mNx)
    (mSeq (mIf (rNotT (rTru (rCall 2 (F__law_same 40) [] (rCons (rCall 1 F_join_lines [.str ""] (rCons (rV 4) rNil)) (rCons (rMet gJoin (rC (.str "")) (rCons (rLc (rSeqI (rV 4)) (tN 6) rYes (r2 gAdd (rV 6) (rC (.str "\n"))) [6]) rNil)) rNil))))) (mRet (rC (.bl false))) mNx)
    (mSeq (mSet 7 (r2 gAdd (rC (.int 1)) (rCall 2 F__law_draw [] (rCons (rV 1) (rCons (rC (.int 8)) rNil)))))
    (mSeq (mPar [8, 9, 10] (rCons2 (rNew "Feeder" 1 F_Feeder___init__ (rCons (rV 7) rNil)) (rCons2 (rLst rNil) (rCons2 (rC (.int 0)) rNil))))
    (mSeq (mWh C_law_1 B_law_0)
    (mSeq (mSet 12 (rLc (rSeqI (rV 4)) (tN 6) rYes (rTup (rCons (rSl (rV 6) rO0 (rO1 (rV 7))) (rCons (r2 gGt (rB gLen (rCons (rV 6) rNil)) (rV 7)) rNil))) [6]))
    (mSeq (mSet 13 (rIf (rTb (r2 gNe (rV 5) (rC (.str "")))) (rTup (rCons (rSl (rV 5) rO0 (rO1 (rV 7))) (rCons (r2 gGt (rB gLen (rCons (rV 5) rNil)) (rV 7)) rNil))) (rC .non)))
    (mSeq (mIf (rNotT (rTru (rCall 2 (F__law_same 40) [] (rCons (rLst (rCons (rB gTupC (rCons (rV 9) rNil)) (rCons (rMth "Feeder" "feed" 1 F_Feeder_feed (rV 8) (rCons (rC (.str "")) rNil)) (rCons (rMth "Feeder" "end" 0 F_Feeder_end (rV 8) rNil) (rCons (rMth "Feeder" "end" 0 F_Feeder_end (rV 8) rNil) (rCons (rFld cf_most "most" (rV 8)) rNil)))))) (rCons (rLst (rCons (rB gTupC (rCons (rV 12) rNil)) (rCons (rTup rNil) (rCons (rV 13) (rCons (rC .non) (rCons (rV 7) rNil)))))) rNil))))) (mRet (rC (.bl false))) mNx)
    (mSeq (mIf (rNotT (rTru (rCall 2 (F__law_same 40) [] (rCons (rMth "Feeder" "feed" 1 F_Feeder_feed (rV 8) (rCons (rC (.str "x\n")) rNil)) (rCons (rTup (rCons (rTup (rCons (rC (.str "x")) (rCons (rC (.bl false)) rNil))) rNil)) rNil))))) (mRet (rC (.bl false))) mNx)
    (mIf (rOrT (rNotT (rTru (rCall 2 (F__law_same 40) [] (rCons (rLc (rSeqI (rV 4)) (tN 6) rYes (rCall 1 F_is_line [] (rCons (rV 6) rNil)) [6]) (rCons (r2 gMul (rLst (rCons (rC (.bl true)) rNil)) (rB gLen (rCons (rV 4) rNil))) rNil))))) (rTb (r2 gNe (rCall 1 F_is_line [] (rCons (rV 3) rNil)) (r2 gNin (rC (.str "\n")) (rV 3))))) (mRet (rC (.bl false))) mNx))))))))))))
theorem B_law_2_eq {σ : PSt} {h : PH} : B_law_2 σ h = (mSeq (mSet 3 (rCall 3 F__law_line [] (rCons (rV 1) (rCons (rC (.int 30)) (rCons (rC (.str "ab \n\\~\n")) rNil)))))
    (mSeq (mAsg (rCall 1 F__law_split [] (rCons (rV 3) rNil)) (tT 2 (tTc (tN 4) (tTc (tN 5) tT0))))
    (mSeq (mIf (rNotT (rTru (rCall 2 (F__law_same 40) [] (rCons (rLst (rCons (rCall 1 F_split_lines [] (rCons (rV 3) rNil)) (rCons (rCall 2 F_join_lines [] (rCons (rV 4) (rCons (rV 5) rNil))) (rCons (rCall 1 F_longest [] (rCons (rV 4) rNil)) rNil)))) (rCons (rLst (rCons (rTup (rCons (rV 4) (rCons (rV 5) rNil))) (rCons (rV 3) (rCons (rB gMax (rCons (r2 gAdd (rLst (rCons (rC (.int 0)) rNil)) (rLc (rSeqI (rV 4)) (tN 6) rYes (rB gLen (rCons (rV 6) rNil)) [6])) rNil)) rNil)))) rNil))))) (mRet (rC (.bl false))) mNx)
    (mSeq (mIf (rNotT (rTru (rCall 2 (F__law_same 40) [] (rCons (rCall 1 F_join_lines [.str ""] (rCons (rV 4) rNil)) (rCons (rMet gJoin (rC (.str "")) (rCons (rLc (rSeqI (rV 4)) (tN 6) rYes (r2 gAdd (rV 6) (rC (.str "\n"))) [6]) rNil)) rNil))))) (mRet (rC (.bl false))) mNx)
    (mSeq (mSet 7 (r2 gAdd (rC (.int 1)) (rCall 2 F__law_draw [] (rCons (rV 1) (rCons (rC (.int 8)) rNil)))))
    (mSeq (mPar [8, 9, 10] (rCons2 (rNew "Feeder" 1 F_Feeder___init__ (rCons (rV 7) rNil)) (rCons2 (rLst rNil) (rCons2 (rC (.int 0)) rNil))))
    (mSeq (mWh C_law_1 B_law_0)
    (mSeq (mSet 12 (rLc (rSeqI (rV 4)) (tN 6) rYes (rTup (rCons (rSl (rV 6) rO0 (rO1 (rV 7))) (rCons (r2 gGt (rB gLen (rCons (rV 6) rNil)) (rV 7)) rNil))) [6]))
    (mSeq (mSet 13 (rIf (rTb (r2 gNe (rV 5) (rC (.str "")))) (rTup (rCons (rSl (rV 5) rO0 (rO1 (rV 7))) (rCons (r2 gGt (rB gLen (rCons (rV 5) rNil)) (rV 7)) rNil))) (rC .non)))
    (mSeq (mIf (rNotT (rTru (rCall 2 (F__law_same 40) [] (rCons (rLst (rCons (rB gTupC (rCons (rV 9) rNil)) (rCons (rMth "Feeder" "feed" 1 F_Feeder_feed (rV 8) (rCons (rC (.str "")) rNil)) (rCons (rMth "Feeder" "end" 0 F_Feeder_end (rV 8) rNil) (rCons (rMth "Feeder" "end" 0 F_Feeder_end (rV 8) rNil) (rCons (rFld cf_most "most" (rV 8)) rNil)))))) (rCons (rLst (rCons (rB gTupC (rCons (rV 12) rNil)) (rCons (rTup rNil) (rCons (rV 13) (rCons (rC .non) (rCons (rV 7) rNil)))))) rNil))))) (mRet (rC (.bl false))) mNx)
    (mSeq (mIf (rNotT (rTru (rCall 2 (F__law_same 40) [] (rCons (rMth "Feeder" "feed" 1 F_Feeder_feed (rV 8) (rCons (rC (.str "x\n")) rNil)) (rCons (rTup (rCons (rTup (rCons (rC (.str "x")) (rCons (rC (.bl false)) rNil))) rNil)) rNil))))) (mRet (rC (.bl false))) mNx)
    (mIf (rOrT (rNotT (rTru (rCall 2 (F__law_same 40) [] (rCons (rLc (rSeqI (rV 4)) (tN 6) rYes (rCall 1 F_is_line [] (rCons (rV 6) rNil)) [6]) (rCons (r2 gMul (rLst (rCons (rC (.bl true)) rNil)) (rB gLen (rCons (rV 4) rNil))) rNil))))) (rTb (r2 gNe (rCall 1 F_is_line [] (rCons (rV 3) rNil)) (r2 gNin (rC (.str "\n")) (rV 3))))) (mRet (rC (.bl false))) mNx)))))))))))) σ h := by unfold B_law_2; rfl
@[irreducible] def S_law_3 : MS :=
  (mSeq (mFor (rRng1 (rCons (rC (.int 5)) rNil)) (tN 2) B_law_2)
    (mSeq (mSet 14 (rLst (rCons (rTup (rCons (rC (.int 0)) (rCons (rC .non) rNil))) (rCons (rTup (rCons (rC (.int 0)) (rCons (rC (.str "\t")) rNil))) (rCons (rTup (rCons (rC (.int 0)) (rCons (rC (.int 3)) rNil))) (rCons (rTup (rCons (rC (.int 1)) (rCons (rC .non) rNil))) (rCons (rTup (rCons (rC (.int 1)) (rCons (rLst (rCons (rC (.str "a")) rNil)) rNil))) (rCons (rTup (rCons (rC (.int 1)) (rCons (rTup (rCons (rC (.str "a\n")) rNil)) rNil))) (rCons (rTup (rCons (rC (.int 1)) (rCons (rTup (rCons (rC (.int 1)) rNil)) rNil))) (rCons (rTup (rCons (rC (.int 2)) (rCons (rC (.str "a\n")) rNil))) (rCons (rTup (rCons (rC (.int 2)) (rCons (rC .non) rNil))) (rCons (rTup (rCons (rC (.int 3)) (rCons (rC (.int 0)) rNil))) (rCons (rTup (rCons (rC (.int 3)) (rCons (rC .non) rNil))) (rCons (rTup (rCons (rC (.int 3)) (rCons (rC (.bl true)) rNil))) rNil))))))))))))))
    (mSeq (mSet 14 (r2 gAdd (rV 14) (rLst (rCons (rTup (rCons (rC (.int 4)) (rCons (rC .non) rNil))) (rCons (rTup (rCons (rC (.int 4)) (rCons (rC (.str "\t")) rNil))) (rCons (rTup (rCons (rC (.int 5)) (rCons (rC (.str "\n")) rNil))) (rCons (rTup (rCons (rC (.int 5)) (rCons (rC .non) rNil))) (rCons (rTup (rCons (rC (.int 6)) (rCons (rC (.str "ab")) rNil))) (rCons (rTup (rCons (rC (.int 6)) (rCons (rC .non) rNil))) rNil)))))))))
    (mSeq (mIf (rTb (r2 gGt (rB gLen (rCons (rLc (rSeqI (rV 14)) (tN 15) (rNotT (rTru (rCall 2 F__law_refused [] (rCons (r2 gIx (rV 15) (rC (.int 0))) (rCons (r2 gIx (rV 15) (rC (.int 1))) rNil))))) (rV 15) [15]) rNil)) (rC (.int 0)))) (mRet (rC (.bl false))) mNx)
    (mRet (r2 gEq (rLc (rSeqI (rTup (rCons (rC (.str "")) (rCons (rC (.str " ~")) (rCons (rC (.str "\t")) (rCons (rC .non) (rCons (rC (.int 1)) (rCons (rC (.str "a\nb")) rNil)))))))) (tN 16) rYes (rCall 1 F_is_line [] (rCons (rV 16) rNil)) [16]) (rLst (rCons (rC (.bl true)) (rCons (rC (.bl true)) (rCons (rC (.bl false)) (rCons (rC (.bl false)) (rCons (rC (.bl false)) (rCons (rC (.bl false)) rNil)))))))))))))
theorem S_law_3_eq {σ : PSt} {h : PH} : S_law_3 σ h = (mSeq (mFor (rRng1 (rCons (rC (.int 5)) rNil)) (tN 2) B_law_2)
    (mSeq (mSet 14 (rLst (rCons (rTup (rCons (rC (.int 0)) (rCons (rC .non) rNil))) (rCons (rTup (rCons (rC (.int 0)) (rCons (rC (.str "\t")) rNil))) (rCons (rTup (rCons (rC (.int 0)) (rCons (rC (.int 3)) rNil))) (rCons (rTup (rCons (rC (.int 1)) (rCons (rC .non) rNil))) (rCons (rTup (rCons (rC (.int 1)) (rCons (rLst (rCons (rC (.str "a")) rNil)) rNil))) (rCons (rTup (rCons (rC (.int 1)) (rCons (rTup (rCons (rC (.str "a\n")) rNil)) rNil))) (rCons (rTup (rCons (rC (.int 1)) (rCons (rTup (rCons (rC (.int 1)) rNil)) rNil))) (rCons (rTup (rCons (rC (.int 2)) (rCons (rC (.str "a\n")) rNil))) (rCons (rTup (rCons (rC (.int 2)) (rCons (rC .non) rNil))) (rCons (rTup (rCons (rC (.int 3)) (rCons (rC (.int 0)) rNil))) (rCons (rTup (rCons (rC (.int 3)) (rCons (rC .non) rNil))) (rCons (rTup (rCons (rC (.int 3)) (rCons (rC (.bl true)) rNil))) rNil))))))))))))))
    (mSeq (mSet 14 (r2 gAdd (rV 14) (rLst (rCons (rTup (rCons (rC (.int 4)) (rCons (rC .non) rNil))) (rCons (rTup (rCons (rC (.int 4)) (rCons (rC (.str "\t")) rNil))) (rCons (rTup (rCons (rC (.int 5)) (rCons (rC (.str "\n")) rNil))) (rCons (rTup (rCons (rC (.int 5)) (rCons (rC .non) rNil))) (rCons (rTup (rCons (rC (.int 6)) (rCons (rC (.str "ab")) rNil))) (rCons (rTup (rCons (rC (.int 6)) (rCons (rC .non) rNil))) rNil)))))))))
    (mSeq (mIf (rTb (r2 gGt (rB gLen (rCons (rLc (rSeqI (rV 14)) (tN 15) (rNotT (rTru (rCall 2 F__law_refused [] (rCons (r2 gIx (rV 15) (rC (.int 0))) (rCons (r2 gIx (rV 15) (rC (.int 1))) rNil))))) (rV 15) [15]) rNil)) (rC (.int 0)))) (mRet (rC (.bl false))) mNx)
    (mRet (r2 gEq (rLc (rSeqI (rTup (rCons (rC (.str "")) (rCons (rC (.str " ~")) (rCons (rC (.str "\t")) (rCons (rC .non) (rCons (rC (.int 1)) (rCons (rC (.str "a\nb")) rNil)))))))) (tN 16) rYes (rCall 1 F_is_line [] (rCons (rV 16) rNil)) [16]) (rLst (rCons (rC (.bl true)) (rCons (rC (.bl true)) (rCons (rC (.bl false)) (rCons (rC (.bl false)) (rCons (rC (.bl false)) (rCons (rC (.bl false)) rNil))))))))))))) σ h := by unfold S_law_3; rfl
def R_law : MS :=
  (mSeq (mLay 1 (mSet 1 (rCall 1 F__law_draws [] (rCons (rV 0) rNil))))
    S_law_3)
@[irreducible] def F_law : FN := runF N_law R_law
theorem F_law_def : F_law = runF N_law R_law := by unfold F_law; rfl
theorem u_law {a0 : PV} {h : PH} : F_law [a0] h = toF (R_law [some (.val a0), none, none, none, none, none, none, none, none, none, none, none, none, none, none, none, none] h) := by rw [F_law_def]; rfl
def top (i : Nat) : Stmt := (PySem.Challenge.pw_logsturn_k05_lines).main.body.getD i (.Pass ⟨0, 0, 0, 0⟩)
structure Txt (K : PySem.W.Frag) (mg : Str → Option Value) : Prop where
  ValueError_ : mg "ValueError" = none
  all_ : mg "all" = none
  bool_ : mg "bool" = none
  int_ : mg "int" = none
  isinstance_ : mg "isinstance" = none
  len_ : mg "len" = none
  list_ : mg "list" = none
  max_ : mg "max" = none
  ord_ : mg "ord" = none
  range_ : mg "range" = none
  str_ : mg "str" = none
  tuple_ : mg "tuple" = none
  nv_BadLine : NameV mg "BadLine" (vvOf mg "BadLine") (cvOf mg "BadLine")
  x_BadLine : XC K mg "BadLine"
  xm_BadLine : ∀ x b, tb_BadLine x = some b → XM K mg x (cvOf mg "BadLine") b
  xi_ValueError : ∀ x b, ti_ValueError x = some b → XI K mg x (cvOf mg "ValueError") b
  cf_cut : ∀ C, cf_cut C = true → CF K C "cut"
  cf_most : ∀ C, cf_most C = true → CF K C "most"
  cf_rest : ∀ C, cf_rest C = true → CF K C "rest"
section
variable {P : Program} {w : World} {K : PySem.W.Frag} {mg : Str → Option Value} {base : Heap} {k : Nat}
abbrev st_is_integer : Stmt := top 4
theorem sc_is_integer : FnScope N_is_integer ["value"] (defScope st_is_integer) := ⟨rfl, rfl, rfl, by decide +kernel, rfl, by decide +kernel, by decide +kernel⟩
theorem b_is_integer (T : Txt K mg) : JSs (.fn0 P w K mg base N_is_integer st_is_integer k) (defBody st_is_integer) (upS R_is_integer) := by
  unfold R_is_integer
  exact (jss_one (y_ret (js_ret (x_and (je_and (x_B (je_callB k_isi T.isinstance_ rfl (x_cons (ja_cons (x_V (je_v 0)) (x_cons (ja_cons (x_C (je_b T.int_ rfl rfl)) (x_nil ja_nil))))))) (je_one (x_not (je_not (x_B (je_callB k_isi T.isinstance_ rfl (x_cons (ja_cons (x_V (je_v 0)) (x_cons (ja_cons (x_C (je_b T.bool_ rfl rfl)) (x_nil ja_nil)))))))))))))))
abbrev st_is_sign : Stmt := top 5
theorem sc_is_sign : FnScope N_is_sign ["sign"] (defScope st_is_sign) := ⟨rfl, rfl, rfl, by decide +kernel, rfl, by decide +kernel, by decide +kernel⟩
theorem b_is_sign (T : Txt K mg) : JSs (.fn0 P w K mg base N_is_sign st_is_sign k) (defBody st_is_sign) (upS R_is_sign) := by
  unfold R_is_sign
  exact (jss_one (y_ret (js_ret (x_or (je_or (x_2 (je_cmp z_eq (x_V (je_v 0)) (x_C je_str))) (je_one (x_ch (je_chain z_le z_le (x_C je_int) (x_B (je_callB k_ord T.ord_ rfl (x_cons (ja_cons (x_V (je_v 0)) (x_nil ja_nil))))) (x_C je_int)))))))))
abbrev st_is_text : Stmt := top 6
theorem sc_is_text : FnScope N_is_text ["value"] (defScope st_is_text) := ⟨rfl, rfl, rfl, by decide +kernel, rfl, by decide +kernel, by decide +kernel⟩
theorem b_is_text (T : Txt K mg) (G_is_sign : FnS (.fn0 P w K mg base N_is_text st_is_text k) "is_sign" 1 [] (upF F_is_sign)) : JSs (.fn0 P w K mg base N_is_text st_is_text k) (defBody st_is_text) (upS R_is_text) := by
  unfold R_is_text
  exact (jss_one (y_ret (js_ret (x_and (je_and (x_B (je_callB k_isi T.isinstance_ rfl (x_cons (ja_cons (x_V (je_v 0)) (x_cons (ja_cons (x_C (je_b T.str_ rfl rfl)) (x_nil ja_nil))))))) (je_one (x_B (je_callB (k_all rfl) T.all_ rfl (x_cons (ja_cons (x_lc (je_lc (own := [("sign", 1)]) rfl (x_seqI (ji_seq (x_V (je_v 0)))) (by kernel_rfl) (x_gN (jg_n 1)) (x_yes jts_nil) (x_call (je_call (m := 1) (FnS.blk G_is_sign) (x_cons (ja_cons (x_V (je_v 1)) (x_nil ja_nil))))))) (x_nil ja_nil)))))))))))
abbrev st_is_line : Stmt := top 8
theorem sc_is_line : FnScope N_is_line ["value"] (defScope st_is_line) := ⟨rfl, rfl, rfl, by decide +kernel, rfl, by decide +kernel, by decide +kernel⟩
theorem b_is_line (T : Txt K mg) (G_is_text : FnS (.fn0 P w K mg base N_is_line st_is_line k) "is_text" 1 [] (upF F_is_text)) : JSs (.fn0 P w K mg base N_is_line st_is_line k) (defBody st_is_line) (upS R_is_line) := by
  unfold R_is_line
  exact (jss_one (y_ret (js_ret (x_and (je_and (x_call (je_call (m := 1) G_is_text (x_cons (ja_cons (x_V (je_v 0)) (x_nil ja_nil))))) (je_one (x_2 (je_cmp z_nin (x_C je_str) (x_V (je_v 0))))))))))
abbrev st_look_at_line : Stmt := top 9
theorem sc_look_at_line : FnScope N_look_at_line ["value"] (defScope st_look_at_line) := ⟨rfl, rfl, rfl, by decide +kernel, rfl, by decide +kernel, by decide +kernel⟩
theorem b_look_at_line (T : Txt K mg) (G_is_line : FnS (.fn0 P w K mg base N_look_at_line st_look_at_line k) "is_line" 1 [] (upF F_is_line)) : JSs (.fn0 P w K mg base N_look_at_line st_look_at_line k) (defBody st_look_at_line) (upS R_look_at_line) := by
  unfold R_look_at_line
  exact (jss_one (y_if (js_if (x_notT (jt_not (x_tru (jt_tru (x_call (je_call (m := 1) G_is_line (x_cons (ja_cons (x_V (je_v 0)) (x_nil ja_nil))))))))) (jss_one (y_raise (js_raise T.x_BadLine (x_cons (ja_cons (x_C je_str) (x_nil ja_nil)))))) (y_nil jss_nil))))
abbrev st_look_at_lines : Stmt := top 10
theorem sc_look_at_lines : FnScope N_look_at_lines ["value"] (defScope st_look_at_lines) := ⟨rfl, rfl, rfl, by decide +kernel, rfl, by decide +kernel, by decide +kernel⟩
theorem b_look_at_lines (T : Txt K mg) (G_is_line : FnS (.fn0 P w K mg base N_look_at_lines st_look_at_lines k) "is_line" 1 [] (upF F_is_line)) : JSs (.fn0 P w K mg base N_look_at_lines st_look_at_lines k) (defBody st_look_at_lines) (upS R_look_at_lines) := by
  unfold R_look_at_lines
  exact (jss_one (y_if (js_if (JW.t (x_orT (jw_or (x_notT (jt_not (x_tru (jt_tru (x_B (je_callB k_isi T.isinstance_ rfl (x_cons (ja_cons (x_V (je_v 0)) (x_cons (ja_cons (x_C (je_b T.tuple_ rfl rfl)) (x_nil ja_nil))))))))))) (jw_or1 (x_notT (jt_not (x_tru (jt_tru (x_B (je_callB (k_all rfl) T.all_ rfl (x_cons (ja_cons (x_lc (je_lc (own := [("one", 1)]) rfl (x_seqI (ji_seq (x_V (je_v 0)))) (by kernel_rfl) (x_gN (jg_n 1)) (x_yes jts_nil) (x_call (je_call (m := 1) (FnS.blk G_is_line) (x_cons (ja_cons (x_V (je_v 1)) (x_nil ja_nil))))))) (x_nil ja_nil))))))))))))) (jss_one (y_raise (js_raise T.x_BadLine (x_cons (ja_cons (x_C je_str) (x_nil ja_nil)))))) (y_nil jss_nil))))
abbrev st_split_lines : Stmt := top 11
theorem sc_split_lines : FnScope N_split_lines ["text"] (defScope st_split_lines) := ⟨rfl, rfl, rfl, by decide +kernel, rfl, by decide +kernel, by decide +kernel⟩
theorem b_split_lines (T : Txt K mg) (G_is_text : FnS (.fn0 P w K mg base N_split_lines st_split_lines k) "is_text" 1 [] (upF F_is_text)) : JSs (.fn0 P w K mg base N_split_lines st_split_lines k) (defBody st_split_lines) (upS R_split_lines) := by
  unfold R_split_lines
  exact (y_seq (jss_cons (y_if (js_if (x_notT (jt_not (x_tru (jt_tru (x_call (je_call (m := 1) G_is_text (x_cons (ja_cons (x_V (je_v 0)) (x_nil ja_nil))))))))) (jss_one (y_raise (js_raise T.x_BadLine (x_cons (ja_cons (x_C je_str) (x_nil ja_nil)))))) (y_nil jss_nil)))
    (y_seq (jss_cons (y_set (js_set 1 (x_met (je_met mt_spl (x_V (je_v 0)) (x_cons (ja_cons (x_C je_str) (x_nil ja_nil)))))))
    (jss_one (y_ret (js_ret (x_tup (je_tup (x_cons (ja_cons (x_B (je_callTy k_tuple T.tuple_ rfl (x_cons (ja_cons (x_sl (je_sl (x_V (je_v 1)) (x_O0 jo_none) (x_O1 (jo_some (x_neg (je_neg (x_C je_int))))))) (x_nil ja_nil))))) (x_cons (ja_cons (x_ix (je_ix (x_V (je_v 1)) (x_neg (je_neg (x_C je_int))))) (x_nil ja_nil))))))))))))))
abbrev st_join_lines : Stmt := top 12
theorem sc_join_lines : FnScope N_join_lines ["lines", "rest"] (defScope st_join_lines) := ⟨rfl, rfl, rfl, by decide +kernel, rfl, by decide +kernel, by decide +kernel⟩
theorem b_join_lines (T : Txt K mg) (G_look_at_line : FnS (.fn0 P w K mg base N_join_lines st_join_lines k) "look_at_line" 1 [] (upF F_look_at_line)) (G_look_at_lines : FnS (.fn0 P w K mg base N_join_lines st_join_lines k) "look_at_lines" 1 [] (upF F_look_at_lines)) : JSs (.fn0 P w K mg base N_join_lines st_join_lines k) (defBody st_join_lines) (upS R_join_lines) := by
  unfold R_join_lines
  exact (y_seq (jss_cons (y_drop (js_expr (x_call (je_call (m := 1) G_look_at_lines (x_cons (ja_cons (x_V (je_v 0)) (x_nil ja_nil)))))))
    (y_seq (jss_cons (y_drop (js_expr (x_call (je_call (m := 1) G_look_at_line (x_cons (ja_cons (x_V (je_v 1)) (x_nil ja_nil)))))))
    (jss_one (y_ret (js_ret (x_2 (je_op z_add (x_met (je_met mt_jn (x_C je_str) (x_cons (ja_cons (x_lc (je_lc (own := [("line", 2)]) rfl (x_seqI (ji_seq (x_V (je_v 0)))) (by kernel_rfl) (x_gN (jg_n 2)) (x_yes jts_nil) (x_2 (je_op z_add (x_V (je_v 2)) (x_C je_str))))) (x_nil ja_nil))))) (x_V (je_v 1)))))))))))
abbrev st_longest : Stmt := top 14
theorem sc_longest : FnScope N_longest ["lines"] (defScope st_longest) := ⟨rfl, rfl, rfl, by decide +kernel, rfl, by decide +kernel, by decide +kernel⟩
theorem b_longest (T : Txt K mg) (G_look_at_lines : FnS (.fn0 P w K mg base N_longest st_longest k) "look_at_lines" 1 [] (upF F_look_at_lines)) : JSs (.fn0 P w K mg base N_longest st_longest k) (defBody st_longest) (upS R_longest) := by
  unfold R_longest
  exact (y_seq (jss_cons (y_drop (js_expr (x_call (je_call (m := 1) G_look_at_lines (x_cons (ja_cons (x_V (je_v 0)) (x_nil ja_nil)))))))
    (jss_one (y_ret (js_ret (x_B (je_callB (k_max rfl) T.max_ rfl (x_cons (ja_cons (x_2 (je_op z_add (x_lst (je_lst (x_cons (ja_cons (x_C je_int) (x_nil ja_nil))))) (x_lc (je_lc (own := [("line", 1)]) rfl (x_seqI (ji_seq (x_V (je_v 0)))) (by kernel_rfl) (x_gN (jg_n 1)) (x_yes jts_nil) (x_B (je_callB k_len T.len_ rfl (x_cons (ja_cons (x_V (je_v 1)) (x_nil ja_nil))))))))) (x_nil ja_nil))))))))))
abbrev st__law_draws : Stmt := top 16
theorem sc__law_draws : FnScope N__law_draws ["script"] (defScope st__law_draws) := ⟨rfl, rfl, rfl, by decide +kernel, rfl, by decide +kernel, by decide +kernel⟩
theorem b__law_draws (T : Txt K mg) : JSs (.fn0 P w K mg base N__law_draws st__law_draws k) (defBody st__law_draws) (upS R__law_draws) := by
  unfold R__law_draws
  exact (jss_one (y_ret (js_ret (x_lst (je_lst (x_cons (ja_cons (x_B (je_callTy (k_list rfl) T.list_ rfl (x_cons (ja_cons (x_V (je_v 0)) (x_nil ja_nil))))) (x_cons (ja_cons (x_C je_int) (x_cons (ja_cons (x_C je_int) (x_cons (ja_cons (x_C je_int) (x_nil ja_nil))))))))))))))
abbrev st__law_draw : Stmt := top 17
theorem sc__law_draw : FnScope N__law_draw ["draws", "limit"] (defScope st__law_draw) := ⟨rfl, rfl, rfl, by decide +kernel, rfl, by decide +kernel, by decide +kernel⟩
theorem b__law_draw (T : Txt K mg) : JSs (.fn0 P w K mg base N__law_draw st__law_draw k) (defBody st__law_draw) (upS R__law_draw) := by
  unfold R__law_draw
  exact (y_seq (jss_cons (y_if (js_if (JW.t (x_andT (jw_and (x_tb2 (jt_cmp z_eq (x_ix (je_ix (x_V (je_v 0)) (x_C je_int))) (x_C je_int))) (jw_and1 (x_tb2 (jt_cmp z_lt (x_ix (je_ix (x_V (je_v 0)) (x_C je_int))) (x_B (je_callB k_len T.len_ rfl (x_cons (ja_cons (x_ix (je_ix (x_V (je_v 0)) (x_C je_int))) (x_nil ja_nil))))))))))) (y_seq (jss_cons (y_set (js_set 2 (x_ix (je_ix (x_ix (je_ix (x_V (je_v 0)) (x_C je_int))) (x_ix (je_ix (x_V (je_v 0)) (x_C je_int)))))))
    (y_seq (jss_cons (y_asg (js_asg (x_2 (je_op z_add (x_ix (je_ix (x_V (je_v 0)) (x_C je_int))) (x_C je_int))) (x_gS (jg_s (x_V (je_v 0)) (x_C je_int)))))
    (y_seq (jss_cons (y_if (js_if (x_tb2 (jt_cmp z_ge (x_V (je_v 2)) (x_2 (je_op z_pow (x_C je_int) (x_C je_int))))) (jss_one (y_asg (js_asg (x_V (je_v 2)) (x_gS (jg_s (x_V (je_v 0)) (x_C je_int)))))) (y_nil jss_nil)))
    (jss_one (y_asg (js_asg (x_2 (je_op z_mod (x_B (je_callTy k_int T.int_ rfl (x_cons (ja_cons (x_2 (je_op z_add (x_2 (je_op z_add (x_2 (je_op z_mul (x_ix (je_ix (x_V (je_v 0)) (x_C je_int))) (x_C je_int))) (x_V (je_v 2)))) (x_C je_int))) (x_nil ja_nil))))) (x_C je_int))) (x_gS (jg_s (x_V (je_v 0)) (x_C je_int)))))))))))) (y_nil jss_nil)))
    (y_seq (jss_cons (y_if (js_if (x_tb2 (jt_cmp z_gt (x_ix (je_ix (x_V (je_v 0)) (x_C je_int))) (x_C je_int))) (y_seq (jss_cons (y_set (js_set 3 (x_2 (je_op z_mod (x_B (je_callTy k_int T.int_ rfl (x_cons (ja_cons (x_ix (je_ix (x_V (je_v 0)) (x_C je_int))) (x_nil ja_nil))))) (x_V (je_v 1))))))
    (y_seq (jss_cons (y_asg (js_asg (x_2 (je_op z_fd (x_ix (je_ix (x_V (je_v 0)) (x_C je_int))) (x_V (je_v 1)))) (x_gS (jg_s (x_V (je_v 0)) (x_C je_int)))))
    (jss_one (y_ret (js_ret (x_V (je_v 3))))))))) (y_nil jss_nil)))
    (y_seq (jss_cons (y_asg (js_asg (x_2 (je_op z_mod (x_B (je_callTy k_int T.int_ rfl (x_cons (ja_cons (x_2 (je_op z_add (x_2 (je_op z_mul (x_ix (je_ix (x_V (je_v 0)) (x_C je_int))) (x_C je_int))) (x_C je_int))) (x_nil ja_nil))))) (x_C je_int))) (x_gS (jg_s (x_V (je_v 0)) (x_C je_int)))))
    (jss_one (y_ret (js_ret (x_2 (je_op z_mod (x_B (je_callTy k_int T.int_ rfl (x_cons (ja_cons (x_2 (je_op z_fd (x_ix (je_ix (x_V (je_v 0)) (x_C je_int))) (x_C je_int))) (x_nil ja_nil))))) (x_V (je_v 1)))))))))))))
abbrev st__law_same : Stmt := top 18
theorem sc__law_same : FnScope N__law_same ["actual", "expected"] (defScope st__law_same) := ⟨rfl, rfl, rfl, by decide +kernel, rfl, by decide +kernel, by decide +kernel⟩
theorem b__law_same (T : Txt K mg) {F_self : FN} (G__law_same : FnS (.fn0 P w K mg base N__law_same st__law_same k) "_law_same" 2 [] (upF F_self)) : JSs (.fn0 P w K mg base N__law_same st__law_same k) (defBody st__law_same) (upS (R__law_same F_self)) := by
  unfold R__law_same
  exact (y_seq (jss_cons (y_if (js_if (JW.t (x_orT (jw_or (x_tru (jt_tru (x_B (je_callB k_isi T.isinstance_ rfl (x_cons (ja_cons (x_V (je_v 1)) (x_cons (ja_cons (x_C (je_b T.tuple_ rfl rfl)) (x_nil ja_nil))))))))) (jw_or1 (x_tru (jt_tru (x_B (je_callB k_isi T.isinstance_ rfl (x_cons (ja_cons (x_V (je_v 1)) (x_cons (ja_cons (x_C (je_b T.list_ rfl rfl)) (x_nil ja_nil))))))))))))) (y_seq (jss_cons (y_if (js_if (JW.t (x_orT (jw_or (x_tb2 (jt_cmp z_ne (x_B (je_callB k_isi T.isinstance_ rfl (x_cons (ja_cons (x_V (je_v 1)) (x_cons (ja_cons (x_C (je_b T.tuple_ rfl rfl)) (x_nil ja_nil))))))) (x_B (je_callB k_isi T.isinstance_ rfl (x_cons (ja_cons (x_V (je_v 0)) (x_cons (ja_cons (x_C (je_b T.tuple_ rfl rfl)) (x_nil ja_nil))))))))) (jw_or1 (x_tb2 (jt_cmp z_ne (x_B (je_callB k_isi T.isinstance_ rfl (x_cons (ja_cons (x_V (je_v 1)) (x_cons (ja_cons (x_C (je_b T.list_ rfl rfl)) (x_nil ja_nil))))))) (x_B (je_callB k_isi T.isinstance_ rfl (x_cons (ja_cons (x_V (je_v 0)) (x_cons (ja_cons (x_C (je_b T.list_ rfl rfl)) (x_nil ja_nil))))))))))))) (jss_one (y_ret (js_ret (x_C je_bl)))) (y_nil jss_nil)))
    (y_seq (jss_cons (y_if (js_if (x_tb2 (jt_cmp z_ne (x_B (je_callB k_len T.len_ rfl (x_cons (ja_cons (x_V (je_v 0)) (x_nil ja_nil))))) (x_B (je_callB k_len T.len_ rfl (x_cons (ja_cons (x_V (je_v 1)) (x_nil ja_nil))))))) (jss_one (y_ret (js_ret (x_C je_bl)))) (y_nil jss_nil)))
    (jss_one (y_ret (js_ret (x_2 (je_cmp z_eq (x_B (je_callB k_len T.len_ rfl (x_cons (ja_cons (x_lc (je_lc (own := [("k", 2)]) rfl (x_rng1 (ji_range1 T.range_ (x_cons (ja_cons (x_B (je_callB k_len T.len_ rfl (x_cons (ja_cons (x_V (je_v 1)) (x_nil ja_nil))))) (x_nil ja_nil))))) (by kernel_rfl) (x_gN (jg_n 2)) (jts_one (x_notT (jt_not (x_tru (jt_tru (x_call (je_call (m := 2) (FnS.blk G__law_same) (x_cons (ja_cons (x_ix (je_ix (x_V (je_v 0)) (x_V (je_v 2)))) (x_cons (ja_cons (x_ix (je_ix (x_V (je_v 1)) (x_V (je_v 2)))) (x_nil ja_nil)))))))))))) (x_V (je_v 2)))) (x_nil ja_nil))))) (x_C je_int)))))))))) (y_nil jss_nil)))
    (y_seq (jss_cons (y_if (js_if (x_tru (jt_tru (x_B (je_callB k_isi T.isinstance_ rfl (x_cons (ja_cons (x_V (je_v 1)) (x_cons (ja_cons (x_C (je_b T.str_ rfl rfl)) (x_nil ja_nil))))))))) (jss_one (y_ret (js_ret (x_and (je_and (x_B (je_callB k_isi T.isinstance_ rfl (x_cons (ja_cons (x_V (je_v 0)) (x_cons (ja_cons (x_C (je_b T.str_ rfl rfl)) (x_nil ja_nil))))))) (je_one (x_2 (je_cmp z_eq (x_V (je_v 0)) (x_V (je_v 1)))))))))) (y_nil jss_nil)))
    (y_seq (jss_cons (y_if (js_if (x_tb2 (jt_cmp z_is (x_V (je_v 1)) (x_C je_non))) (jss_one (y_ret (js_ret (x_2 (je_cmp z_is (x_V (je_v 0)) (x_C je_non)))))) (y_nil jss_nil)))
    (y_seq (jss_cons (y_if (js_if (JW.t (x_orT (jw_or (x_tru (jt_tru (x_B (je_callB k_isi T.isinstance_ rfl (x_cons (ja_cons (x_V (je_v 1)) (x_cons (ja_cons (x_C (je_b T.bool_ rfl rfl)) (x_nil ja_nil))))))))) (jw_or1 (x_tru (jt_tru (x_B (je_callB k_isi T.isinstance_ rfl (x_cons (ja_cons (x_V (je_v 0)) (x_cons (ja_cons (x_C (je_b T.bool_ rfl rfl)) (x_nil ja_nil))))))))))))) (jss_one (y_ret (js_ret (x_and (je_and (x_B (je_callB k_isi T.isinstance_ rfl (x_cons (ja_cons (x_V (je_v 1)) (x_cons (ja_cons (x_C (je_b T.bool_ rfl rfl)) (x_nil ja_nil))))))) (x_and (je_and (x_B (je_callB k_isi T.isinstance_ rfl (x_cons (ja_cons (x_V (je_v 0)) (x_cons (ja_cons (x_C (je_b T.bool_ rfl rfl)) (x_nil ja_nil))))))) (je_one (x_2 (je_cmp z_eq (x_V (je_v 0)) (x_V (je_v 1)))))))))))) (y_nil jss_nil)))
    (jss_one (y_ret (js_ret (x_and (je_and (x_B (je_callB k_isi T.isinstance_ rfl (x_cons (ja_cons (x_V (je_v 0)) (x_cons (ja_cons (x_C (je_b T.int_ rfl rfl)) (x_nil ja_nil))))))) (x_and (je_and (x_B (je_callB k_isi T.isinstance_ rfl (x_cons (ja_cons (x_V (je_v 1)) (x_cons (ja_cons (x_C (je_b T.int_ rfl rfl)) (x_nil ja_nil))))))) (je_one (x_2 (je_cmp z_eq (x_V (je_v 0)) (x_V (je_v 1))))))))))))))))))))
abbrev st__law_line : Stmt := top 19
theorem sc__law_line : FnScope N__law_line ["draws", "most", "signs"] (defScope st__law_line) := ⟨rfl, rfl, rfl, by decide +kernel, rfl, by decide +kernel, by decide +kernel⟩
theorem b__law_line (T : Txt K mg) (G__law_draw : FnS (.fn0 P w K mg base N__law_line st__law_line k) "_law_draw" 2 [] (upF F__law_draw)) : JSs (.fn0 P w K mg base N__law_line st__law_line k) (defBody st__law_line) (upS R__law_line) := by
  unfold R__law_line
  exact (jss_one (y_ret (js_ret (x_met (je_met mt_jn (x_C je_str) (x_cons (ja_cons (x_lc (je_lc (own := [("k", 3)]) rfl (x_rng1 (ji_range1 T.range_ (x_cons (ja_cons (x_call (je_call (m := 2) G__law_draw (x_cons (ja_cons (x_V (je_v 0)) (x_cons (ja_cons (x_V (je_v 1)) (x_nil ja_nil))))))) (x_nil ja_nil))))) (by kernel_rfl) (x_gN (jg_n 3)) (x_yes jts_nil) (x_ix (je_ix (x_V (je_v 2)) (x_call (je_call (m := 2) (FnS.blk G__law_draw) (x_cons (ja_cons (x_V (je_v 0)) (x_cons (ja_cons (x_B (je_callB k_len T.len_ rfl (x_cons (ja_cons (x_V (je_v 2)) (x_nil ja_nil))))) (x_nil ja_nil))))))))))) (x_nil ja_nil))))))))
abbrev st__law_split : Stmt := top 20
theorem sc__law_split : FnScope N__law_split ["text"] (defScope st__law_split) := ⟨rfl, rfl, rfl, by decide +kernel, rfl, by decide +kernel, by decide +kernel⟩
theorem b__law_split (T : Txt K mg) : JSs (.fn0 P w K mg base N__law_split st__law_split k) (defBody st__law_split) (upS R__law_split) := by
  unfold R__law_split B__law_split_0
  exact (y_seq (jss_cons (y_par (js_par2 1 2 (x_cons2 (ja2_cons (x_lst (je_lst (x_nil ja_nil))) (x_cons2 (ja2_cons (x_C je_str) (x_nil2 ja2_nil))))) (hw := by intro env he; unfold swappedStores Env.kindOf Env.blockKind; rw [he]; rfl)))
    (y_seq (jss_cons (y_for (js_for (x_seqI (ji_seq (x_V (je_v 0)))) (x_gN (jg_n 3)) (jss_one (y_if (js_if (x_tb2 (jt_cmp z_eq (x_V (je_v 3)) (x_C je_str))) (y_seq (jss_cons (y_drop (js_expr (x_mut (je_mut m_append (x_V (je_v 1)) (x_cons (ja_cons (x_V (je_v 2)) (x_nil ja_nil)))))))
    (jss_one (y_set (js_set 2 (x_C je_str)))))) (jss_one (y_set (js_set 2 (x_2 (je_op z_add (x_V (je_v 2)) (x_V (je_v 3))))))))))))
    (jss_one (y_ret (js_ret (x_tup (je_tup (x_cons (ja_cons (x_B (je_callTy k_tuple T.tuple_ rfl (x_cons (ja_cons (x_V (je_v 1)) (x_nil ja_nil))))) (x_cons (ja_cons (x_V (je_v 2)) (x_nil ja_nil))))))))))))))
abbrev st_Feeder___init__ : Stmt := inClass (top 13) 0
theorem sc_Feeder___init__ : FnScope N_Feeder___init__ ["self", "most"] (defScope st_Feeder___init__) := ⟨rfl, rfl, rfl, by decide +kernel, rfl, by decide +kernel, by decide +kernel⟩
theorem b_Feeder___init__ (T : Txt K mg) (G_is_integer : FnS (.fn0 P w K mg base N_Feeder___init__ st_Feeder___init__ k) "is_integer" 1 [] (upF F_is_integer)) : JSs (.fn0 P w K mg base N_Feeder___init__ st_Feeder___init__ k) (defBody st_Feeder___init__) (upS R_Feeder___init__) := by
  unfold R_Feeder___init__
  exact (y_seq (jss_cons (y_if (js_if (JW.t (x_orT (jw_or (x_notT (jt_not (x_tru (jt_tru (x_call (je_call (m := 1) G_is_integer (x_cons (ja_cons (x_V (je_v 1)) (x_nil ja_nil))))))))) (jw_or1 (x_tb2 (jt_cmp z_lt (x_V (je_v 1)) (x_C je_int))))))) (jss_one (y_raise (js_raise T.x_BadLine (x_cons (ja_cons (x_C je_str) (x_nil ja_nil)))))) (y_nil jss_nil)))
    (y_seq (jss_cons (y_fst (js_fst (x_V (je_v 1)) (x_V (je_v 0))) T.cf_most)
    (y_seq (jss_cons (y_fst (js_fst (x_C je_str) (x_V (je_v 0))) T.cf_rest)
    (jss_one (y_fst (js_fst (x_C je_bl) (x_V (je_v 0))) T.cf_cut))))))))
abbrev st_Feeder_feed : Stmt := inClass (top 13) 1
theorem sc_Feeder_feed : FnScope N_Feeder_feed ["self", "text"] (defScope st_Feeder_feed) := ⟨rfl, rfl, rfl, by decide +kernel, rfl, by decide +kernel, by decide +kernel⟩
theorem b_Feeder_feed (T : Txt K mg) (G_is_text : FnS (.fn0 P w K mg base N_Feeder_feed st_Feeder_feed k) "is_text" 1 [] (upF F_is_text)) : JSs (.fn0 P w K mg base N_Feeder_feed st_Feeder_feed k) (defBody st_Feeder_feed) (upS R_Feeder_feed) := by
  unfold R_Feeder_feed B_feed_0
  exact (y_seq (jss_cons (y_if (js_if (x_notT (jt_not (x_tru (jt_tru (x_call (je_call (m := 1) G_is_text (x_cons (ja_cons (x_V (je_v 1)) (x_nil ja_nil))))))))) (jss_one (y_raise (js_raise T.x_BadLine (x_cons (ja_cons (x_C je_str) (x_nil ja_nil)))))) (y_nil jss_nil)))
    (y_seq (jss_cons (y_set (js_set 2 (x_lst (je_lst (x_nil ja_nil)))))
    (y_seq (jss_cons (y_for (js_for (x_seqI (ji_seq (x_V (je_v 1)))) (x_gN (jg_n 3)) (jss_one (y_if (js_if (x_tb2 (jt_cmp z_eq (x_V (je_v 3)) (x_C je_str))) (y_seq (jss_cons (y_drop (js_expr (x_mut (je_mut m_append (x_V (je_v 2)) (x_cons (ja_cons (x_tup (je_tup (x_cons (ja_cons (x_fld (je_fld (x_V (je_v 0))) T.cf_rest) (x_cons (ja_cons (x_fld (je_fld (x_V (je_v 0))) T.cf_cut) (x_nil ja_nil))))))) (x_nil ja_nil)))))))
    (jss_one (y_asg (js_asg (x_tup (je_tup (x_cons (ja_cons (x_C je_str) (x_cons (ja_cons (x_C je_bl) (x_nil ja_nil))))))) (x_gT (jg_t (n := 2) (x_gTc (jgs_cons (x_gF (jg_f (x_V (je_v 0))) T.cf_rest) (x_gTc (jgs_cons (x_gF (jg_f (x_V (je_v 0))) T.cf_cut) (x_gT0 jgs_nil))))))) (hw := by intro env he; unfold swappedStores Env.kindOf Env.blockKind; rw [he]; rfl)))))) (jss_one (y_if (js_if (x_tb2 (jt_cmp z_lt (x_B (je_callB k_len T.len_ rfl (x_cons (ja_cons (x_fld (je_fld (x_V (je_v 0))) T.cf_rest) (x_nil ja_nil))))) (x_fld (je_fld (x_V (je_v 0))) T.cf_most))) (jss_one (y_fst (js_fst (x_2 (je_op z_add (x_fld (je_fld (x_V (je_v 0))) T.cf_rest) (x_V (je_v 3)))) (x_V (je_v 0))) T.cf_rest)) (jss_one (y_fst (js_fst (x_C je_bl) (x_V (je_v 0))) T.cf_cut))))))))))
    (jss_one (y_ret (js_ret (x_B (je_callTy k_tuple T.tuple_ rfl (x_cons (ja_cons (x_V (je_v 2)) (x_nil ja_nil))))))))))))))
abbrev st__law_refused : Stmt := top 21
theorem sc__law_refused : FnScope N__law_refused ["which", "value"] (defScope st__law_refused) := ⟨rfl, rfl, rfl, by decide +kernel, rfl, by decide +kernel, by decide +kernel⟩
theorem b__law_refused (T : Txt K mg) (I_Feeder : FnI (.fn0 P w K mg base N__law_refused st__law_refused k) "Feeder" 2 (upF F_Feeder___init__)) (M_Feeder_feed : FnM (.fn0 P w K mg base N__law_refused st__law_refused k) "Feeder" "feed" 2 (upF F_Feeder_feed)) (Gd_join_lines : FnS (.fn0 P w K mg base N__law_refused st__law_refused k) "join_lines" 2 [.str ""] (upF F_join_lines)) (G_join_lines : FnS (.fn0 P w K mg base N__law_refused st__law_refused k) "join_lines" 2 [] (upF F_join_lines)) (G_longest : FnS (.fn0 P w K mg base N__law_refused st__law_refused k) "longest" 1 [] (upF F_longest)) (G_look_at_line : FnS (.fn0 P w K mg base N__law_refused st__law_refused k) "look_at_line" 1 [] (upF F_look_at_line)) (G_split_lines : FnS (.fn0 P w K mg base N__law_refused st__law_refused k) "split_lines" 1 [] (upF F_split_lines)) : JSs (.fn0 P w K mg base N__law_refused st__law_refused k) (defBody st__law_refused) (upS R__law_refused) := by
  unfold R__law_refused
  exact (y_seq (jss_cons (y_try (js_try 2 T.nv_BadLine (jss_one (y_if (js_if (x_tb2 (jt_cmp z_eq (x_V (je_v 0)) (x_C je_int))) (jss_one (y_drop (js_expr (x_call (je_call (m := 1) G_split_lines (x_cons (ja_cons (x_V (je_v 1)) (x_nil ja_nil)))))))) (jss_one (y_if (js_if (x_tb2 (jt_cmp z_eq (x_V (je_v 0)) (x_C je_int))) (jss_one (y_drop (js_expr (x_call (je_call (m := 1) Gd_join_lines (x_cons (ja_cons (x_V (je_v 1)) (x_nil ja_nil)))))))) (jss_one (y_if (js_if (x_tb2 (jt_cmp z_eq (x_V (je_v 0)) (x_C je_int))) (jss_one (y_drop (js_expr (x_call (je_call (m := 2) G_join_lines (x_cons (ja_cons (x_tup (je_tup (x_nil ja_nil))) (x_cons (ja_cons (x_V (je_v 1)) (x_nil ja_nil)))))))))) (jss_one (y_if (js_if (x_tb2 (jt_cmp z_eq (x_V (je_v 0)) (x_C je_int))) (jss_one (y_drop (js_expr (x_new (je_new (k := 1) I_Feeder (x_cons (ja_cons (x_V (je_v 1)) (x_nil ja_nil)))))))) (jss_one (y_if (js_if (x_tb2 (jt_cmp z_eq (x_V (je_v 0)) (x_C je_int))) (jss_one (y_drop (js_expr (x_mth (je_meth (k := 1) M_Feeder_feed (x_new (je_new (k := 1) I_Feeder (x_cons (ja_cons (x_C je_int) (x_nil ja_nil))))) (x_cons (ja_cons (x_V (je_v 1)) (x_nil ja_nil)))))))) (jss_one (y_if (js_if (x_tb2 (jt_cmp z_eq (x_V (je_v 0)) (x_C je_int))) (jss_one (y_drop (js_expr (x_call (je_call (m := 1) G_look_at_line (x_cons (ja_cons (x_V (je_v 1)) (x_nil ja_nil)))))))) (jss_one (y_drop (js_expr (x_call (je_call (m := 1) G_longest (x_cons (ja_cons (x_V (je_v 1)) (x_nil ja_nil)))))))))))))))))))))))))) (fun x => (jsx_one (y_xret (jx1_ret (x_xi (jex_isi (nv_blt T.ValueError_ (by rfl) (by decide)) T.isinstance_) T.xi_ValueError)))))) T.xm_BadLine)
    (jss_one (y_ret (js_ret (x_C je_bl))))))
abbrev st_Feeder_end : Stmt := inClass (top 13) 2
theorem sc_Feeder_end : FnScope N_Feeder_end ["self"] (defScope st_Feeder_end) := ⟨rfl, rfl, rfl, by decide +kernel, rfl, by decide +kernel, by decide +kernel⟩
theorem b_Feeder_end (T : Txt K mg) : JSs (.fn0 P w K mg base N_Feeder_end st_Feeder_end k) (defBody st_Feeder_end) (upS R_Feeder_end) := by
  unfold R_Feeder_end
  exact (y_seq (jss_cons (y_if (js_if (JW.t (x_andT (jw_and (x_tb2 (jt_cmp z_eq (x_fld (je_fld (x_V (je_v 0))) T.cf_rest) (x_C je_str))) (jw_and1 (x_notT (jt_not (x_tru (jt_tru (x_fld (je_fld (x_V (je_v 0))) T.cf_cut))))))))) (jss_one (y_ret (js_ret (x_C je_non)))) (y_nil jss_nil)))
    (y_seq (jss_cons (y_set (js_set 1 (x_tup (je_tup (x_cons (ja_cons (x_fld (je_fld (x_V (je_v 0))) T.cf_rest) (x_cons (ja_cons (x_fld (je_fld (x_V (je_v 0))) T.cf_cut) (x_nil ja_nil)))))))))
    (y_seq (jss_cons (y_asg (js_asg (x_tup (je_tup (x_cons (ja_cons (x_C je_str) (x_cons (ja_cons (x_C je_bl) (x_nil ja_nil))))))) (x_gT (jg_t (n := 2) (x_gTc (jgs_cons (x_gF (jg_f (x_V (je_v 0))) T.cf_rest) (x_gTc (jgs_cons (x_gF (jg_f (x_V (je_v 0))) T.cf_cut) (x_gT0 jgs_nil))))))) (hw := by intro env he; unfold swappedStores Env.kindOf Env.blockKind; rw [he]; rfl)))
    (jss_one (y_ret (js_ret (x_V (je_v 1)))))))))))
abbrev st_law : Stmt := top 22
theorem sc_law : FnScope N_law ["script"] (defScope st_law) := ⟨rfl, rfl, rfl, by decide +kernel, rfl, by decide +kernel, by decide +kernel⟩
theorem b_law (T : Txt K mg) (I_Feeder : FnI (.fn0 P w K mg base N_law st_law k) "Feeder" 2 (upF F_Feeder___init__)) (M_Feeder_end : FnM (.fn0 P w K mg base N_law st_law k) "Feeder" "end" 1 (upF F_Feeder_end)) (M_Feeder_feed : FnM (.fn0 P w K mg base N_law st_law k) "Feeder" "feed" 2 (upF F_Feeder_feed)) (G__law_draw : FnS (.fn0 P w K mg base N_law st_law k) "_law_draw" 2 [] (upF F__law_draw)) (G__law_draws : FnS (.fn0 P w K mg base N_law st_law k) "_law_draws" 1 [] (upF F__law_draws)) (G__law_line : FnS (.fn0 P w K mg base N_law st_law k) "_law_line" 3 [] (upF F__law_line)) (G__law_refused : FnS (.fn0 P w K mg base N_law st_law k) "_law_refused" 2 [] (upF F__law_refused)) (G__law_same : FnS (.fn0 P w K mg base N_law st_law k) "_law_same" 2 [] (upF (F__law_same 40))) (G__law_split : FnS (.fn0 P w K mg base N_law st_law k) "_law_split" 1 [] (upF F__law_split)) (G_is_line : FnS (.fn0 P w K mg base N_law st_law k) "is_line" 1 [] (upF F_is_line)) (Gd_join_lines : FnS (.fn0 P w K mg base N_law st_law k) "join_lines" 2 [.str ""] (upF F_join_lines)) (G_join_lines : FnS (.fn0 P w K mg base N_law st_law k) "join_lines" 2 [] (upF F_join_lines)) (G_longest : FnS (.fn0 P w K mg base N_law st_law k) "longest" 1 [] (upF F_longest)) (G_split_lines : FnS (.fn0 P w K mg base N_law st_law k) "split_lines" 1 [] (upF F_split_lines)) : JSs (.fn0 P w K mg base N_law st_law k) (defBody st_law) (upS R_law) := by
  unfold R_law S_law_3 B_law_2 C_law_1 B_law_0
  exact (y_seq (jss_cons (y_lay (i := 1) (y_set (js_set 1 (x_call (je_call (m := 1) G__law_draws (x_cons (ja_cons (x_V (je_v 0)) (x_nil ja_nil))))))))
    (y_seq (jss_cons (y_for (js_for (x_rng1 (ji_range1 T.range_ (x_cons (ja_cons (x_C je_int) (x_nil ja_nil))))) (x_gN (jg_n 2)) (y_seq (jss_cons (y_set (js_set 3 (x_call (je_call (m := 3) G__law_line (x_cons (ja_cons (x_V (je_v 1)) (x_cons (ja_cons (x_C je_int) (x_cons (ja_cons (x_C je_str) (x_nil ja_nil)))))))))))
    (y_seq (jss_cons (y_asg (js_asg (x_call (je_call (m := 1) G__law_split (x_cons (ja_cons (x_V (je_v 3)) (x_nil ja_nil))))) (x_gT (jg_t (n := 2) (x_gTc (jgs_cons (x_gN (jg_n 4)) (x_gTc (jgs_cons (x_gN (jg_n 5)) (x_gT0 jgs_nil)))))))))
    (y_seq (jss_cons (y_if (js_if (x_notT (jt_not (x_tru (jt_tru (x_call (je_call (m := 2) G__law_same (x_cons (ja_cons (x_lst (je_lst (x_cons (ja_cons (x_call (je_call (m := 1) G_split_lines (x_cons (ja_cons (x_V (je_v 3)) (x_nil ja_nil))))) (x_cons (ja_cons (x_call (je_call (m := 2) G_join_lines (x_cons (ja_cons (x_V (je_v 4)) (x_cons (ja_cons (x_V (je_v 5)) (x_nil ja_nil))))))) (x_cons (ja_cons (x_call (je_call (m := 1) G_longest (x_cons (ja_cons (x_V (je_v 4)) (x_nil ja_nil))))) (x_nil ja_nil))))))))) (x_cons (ja_cons (x_lst (je_lst (x_cons (ja_cons (x_tup (je_tup (x_cons (ja_cons (x_V (je_v 4)) (x_cons (ja_cons (x_V (je_v 5)) (x_nil ja_nil))))))) (x_cons (ja_cons (x_V (je_v 3)) (x_cons (ja_cons (x_B (je_callB (k_max rfl) T.max_ rfl (x_cons (ja_cons (x_2 (je_op z_add (x_lst (je_lst (x_cons (ja_cons (x_C je_int) (x_nil ja_nil))))) (x_lc (je_lc (own := [("line", 6)]) rfl (x_seqI (ji_seq (x_V (je_v 4)))) (by kernel_rfl) (x_gN (jg_n 6)) (x_yes jts_nil) (x_B (je_callB k_len T.len_ rfl (x_cons (ja_cons (x_V (je_v 6)) (x_nil ja_nil))))))))) (x_nil ja_nil))))) (x_nil ja_nil))))))))) (x_nil ja_nil))))))))))) (jss_one (y_ret (js_ret (x_C je_bl)))) (y_nil jss_nil)))
    (y_seq (jss_cons (y_if (js_if (x_notT (jt_not (x_tru (jt_tru (x_call (je_call (m := 2) G__law_same (x_cons (ja_cons (x_call (je_call (m := 1) Gd_join_lines (x_cons (ja_cons (x_V (je_v 4)) (x_nil ja_nil))))) (x_cons (ja_cons (x_met (je_met mt_jn (x_C je_str) (x_cons (ja_cons (x_lc (je_lc (own := [("line", 6)]) rfl (x_seqI (ji_seq (x_V (je_v 4)))) (by kernel_rfl) (x_gN (jg_n 6)) (x_yes jts_nil) (x_2 (je_op z_add (x_V (je_v 6)) (x_C je_str))))) (x_nil ja_nil))))) (x_nil ja_nil))))))))))) (jss_one (y_ret (js_ret (x_C je_bl)))) (y_nil jss_nil)))
    (y_seq (jss_cons (y_set (js_set 7 (x_2 (je_op z_add (x_C je_int) (x_call (je_call (m := 2) G__law_draw (x_cons (ja_cons (x_V (je_v 1)) (x_cons (ja_cons (x_C je_int) (x_nil ja_nil)))))))))))
    (y_seq (jss_cons (y_par (js_par3 8 9 10 (x_cons2 (ja2_cons (x_new (je_new (k := 1) I_Feeder (x_cons (ja_cons (x_V (je_v 7)) (x_nil ja_nil))))) (x_cons2 (ja2_cons (x_lst (je_lst (x_nil ja_nil))) (x_cons2 (ja2_cons (x_C je_int) (x_nil2 ja2_nil))))))) (hw := by intro env he; unfold swappedStores Env.kindOf Env.blockKind; rw [he]; rfl)))
    (y_seq (jss_cons (y_wh (js_while (x_tb2 (jt_cmp z_lt (x_V (je_v 10)) (x_B (je_callB k_len T.len_ rfl (x_cons (ja_cons (x_V (je_v 3)) (x_nil ja_nil))))))) (y_seq (jss_cons (y_set (js_set 11 (x_2 (je_op z_add (x_C je_int) (x_call (je_call (m := 2) G__law_draw (x_cons (ja_cons (x_V (je_v 1)) (x_cons (ja_cons (x_C je_int) (x_nil ja_nil)))))))))))
    (y_seq (jss_cons (y_set (js_set 9 (x_2 (je_op z_add (x_V (je_v 9)) (x_B (je_callTy (k_list rfl) T.list_ rfl (x_cons (ja_cons (x_mth (je_meth (k := 1) M_Feeder_feed (x_V (je_v 8)) (x_cons (ja_cons (x_sl (je_sl (x_V (je_v 3)) (x_O1 (jo_some (x_V (je_v 10)))) (x_O1 (jo_some (x_2 (je_op z_add (x_V (je_v 10)) (x_V (je_v 11)))))))) (x_nil ja_nil))))) (x_nil ja_nil)))))))))
    (jss_one (y_set (js_set 10 (x_2 (je_op z_add (x_V (je_v 10)) (x_V (je_v 11)))))))))))))
    (y_seq (jss_cons (y_set (y_lc (js_setLc 12 (own := [("line", 6)]) (x_seqI (ji_seq (x_V (je_v 4)))) (by kernel_rfl) (x_gN (jg_n 6)) (x_yes jts_nil) (x_tup (je_tup (x_cons (ja_cons (x_sl (je_sl (x_V (je_v 6)) (x_O0 jo_none) (x_O1 (jo_some (x_V (je_v 7)))))) (x_cons (ja_cons (x_2 (je_cmp z_gt (x_B (je_callB k_len T.len_ rfl (x_cons (ja_cons (x_V (je_v 6)) (x_nil ja_nil))))) (x_V (je_v 7)))) (x_nil ja_nil))))))))))
    (y_seq (jss_cons (y_set (js_set 13 (x_if (je_if (x_tb2 (jt_cmp z_ne (x_V (je_v 5)) (x_C je_str))) (x_tup (je_tup (x_cons (ja_cons (x_sl (je_sl (x_V (je_v 5)) (x_O0 jo_none) (x_O1 (jo_some (x_V (je_v 7)))))) (x_cons (ja_cons (x_2 (je_cmp z_gt (x_B (je_callB k_len T.len_ rfl (x_cons (ja_cons (x_V (je_v 5)) (x_nil ja_nil))))) (x_V (je_v 7)))) (x_nil ja_nil))))))) (x_C je_non)))))
    (y_seq (jss_cons (y_if (js_if (x_notT (jt_not (x_tru (jt_tru (x_call (je_call (m := 2) G__law_same (x_cons (ja_cons (x_lst (je_lst (x_cons (ja_cons (x_B (je_callTy k_tuple T.tuple_ rfl (x_cons (ja_cons (x_V (je_v 9)) (x_nil ja_nil))))) (x_cons (ja_cons (x_mth (je_meth (k := 1) M_Feeder_feed (x_V (je_v 8)) (x_cons (ja_cons (x_C je_str) (x_nil ja_nil))))) (x_cons (ja_cons (x_mth (L := rNil) (je_meth0 M_Feeder_end (x_V (je_v 8)))) (x_cons (ja_cons (x_mth (L := rNil) (je_meth0 M_Feeder_end (x_V (je_v 8)))) (x_cons (ja_cons (x_fld (je_fld (x_V (je_v 8))) T.cf_most) (x_nil ja_nil))))))))))))) (x_cons (ja_cons (x_lst (je_lst (x_cons (ja_cons (x_B (je_callTy k_tuple T.tuple_ rfl (x_cons (ja_cons (x_V (je_v 12)) (x_nil ja_nil))))) (x_cons (ja_cons (x_tup (je_tup (x_nil ja_nil))) (x_cons (ja_cons (x_V (je_v 13)) (x_cons (ja_cons (x_C je_non) (x_cons (ja_cons (x_V (je_v 7)) (x_nil ja_nil))))))))))))) (x_nil ja_nil))))))))))) (jss_one (y_ret (js_ret (x_C je_bl)))) (y_nil jss_nil)))
    (y_seq (jss_cons (y_if (js_if (x_notT (jt_not (x_tru (jt_tru (x_call (je_call (m := 2) G__law_same (x_cons (ja_cons (x_mth (je_meth (k := 1) M_Feeder_feed (x_V (je_v 8)) (x_cons (ja_cons (x_C je_str) (x_nil ja_nil))))) (x_cons (ja_cons (x_tup (je_tup (x_cons (ja_cons (x_tup (je_tup (x_cons (ja_cons (x_C je_str) (x_cons (ja_cons (x_C je_bl) (x_nil ja_nil))))))) (x_nil ja_nil))))) (x_nil ja_nil))))))))))) (jss_one (y_ret (js_ret (x_C je_bl)))) (y_nil jss_nil)))
    (jss_one (y_if (js_if (JW.t (x_orT (jw_or (x_notT (jt_not (x_tru (jt_tru (x_call (je_call (m := 2) G__law_same (x_cons (ja_cons (x_lc (je_lc (own := [("line", 6)]) rfl (x_seqI (ji_seq (x_V (je_v 4)))) (by kernel_rfl) (x_gN (jg_n 6)) (x_yes jts_nil) (x_call (je_call (m := 1) (FnS.blk G_is_line) (x_cons (ja_cons (x_V (je_v 6)) (x_nil ja_nil))))))) (x_cons (ja_cons (x_2 (je_op z_mul (x_lst (je_lst (x_cons (ja_cons (x_C je_bl) (x_nil ja_nil))))) (x_B (je_callB k_len T.len_ rfl (x_cons (ja_cons (x_V (je_v 4)) (x_nil ja_nil))))))) (x_nil ja_nil))))))))))) (jw_or1 (x_tb2 (jt_cmp z_ne (x_call (je_call (m := 1) G_is_line (x_cons (ja_cons (x_V (je_v 3)) (x_nil ja_nil))))) (x_2 (je_cmp z_nin (x_C je_str) (x_V (je_v 3)))))))))) (jss_one (y_ret (js_ret (x_C je_bl)))) (y_nil jss_nil))))))))))))))))))))))))))))
    (y_seq (jss_cons (y_set (js_set 14 (x_lst (je_lst (x_cons (ja_cons (x_tup (je_tup (x_cons (ja_cons (x_C je_int) (x_cons (ja_cons (x_C je_non) (x_nil ja_nil))))))) (x_cons (ja_cons (x_tup (je_tup (x_cons (ja_cons (x_C je_int) (x_cons (ja_cons (x_C je_str) (x_nil ja_nil))))))) (x_cons (ja_cons (x_tup (je_tup (x_cons (ja_cons (x_C je_int) (x_cons (ja_cons (x_C je_int) (x_nil ja_nil))))))) (x_cons (ja_cons (x_tup (je_tup (x_cons (ja_cons (x_C je_int) (x_cons (ja_cons (x_C je_non) (x_nil ja_nil))))))) (x_cons (ja_cons (x_tup (je_tup (x_cons (ja_cons (x_C je_int) (x_cons (ja_cons (x_lst (je_lst (x_cons (ja_cons (x_C je_str) (x_nil ja_nil))))) (x_nil ja_nil))))))) (x_cons (ja_cons (x_tup (je_tup (x_cons (ja_cons (x_C je_int) (x_cons (ja_cons (x_tup (je_tup (x_cons (ja_cons (x_C je_str) (x_nil ja_nil))))) (x_nil ja_nil))))))) (x_cons (ja_cons (x_tup (je_tup (x_cons (ja_cons (x_C je_int) (x_cons (ja_cons (x_tup (je_tup (x_cons (ja_cons (x_C je_int) (x_nil ja_nil))))) (x_nil ja_nil))))))) (x_cons (ja_cons (x_tup (je_tup (x_cons (ja_cons (x_C je_int) (x_cons (ja_cons (x_C je_str) (x_nil ja_nil))))))) (x_cons (ja_cons (x_tup (je_tup (x_cons (ja_cons (x_C je_int) (x_cons (ja_cons (x_C je_non) (x_nil ja_nil))))))) (x_cons (ja_cons (x_tup (je_tup (x_cons (ja_cons (x_C je_int) (x_cons (ja_cons (x_C je_int) (x_nil ja_nil))))))) (x_cons (ja_cons (x_tup (je_tup (x_cons (ja_cons (x_C je_int) (x_cons (ja_cons (x_C je_non) (x_nil ja_nil))))))) (x_cons (ja_cons (x_tup (je_tup (x_cons (ja_cons (x_C je_int) (x_cons (ja_cons (x_C je_bl) (x_nil ja_nil))))))) (x_nil ja_nil)))))))))))))))))))))))))))))
    (y_seq (jss_cons (y_set (js_set 14 (x_2 (je_op z_add (x_V (je_v 14)) (x_lst (je_lst (x_cons (ja_cons (x_tup (je_tup (x_cons (ja_cons (x_C je_int) (x_cons (ja_cons (x_C je_non) (x_nil ja_nil))))))) (x_cons (ja_cons (x_tup (je_tup (x_cons (ja_cons (x_C je_int) (x_cons (ja_cons (x_C je_str) (x_nil ja_nil))))))) (x_cons (ja_cons (x_tup (je_tup (x_cons (ja_cons (x_C je_int) (x_cons (ja_cons (x_C je_str) (x_nil ja_nil))))))) (x_cons (ja_cons (x_tup (je_tup (x_cons (ja_cons (x_C je_int) (x_cons (ja_cons (x_C je_non) (x_nil ja_nil))))))) (x_cons (ja_cons (x_tup (je_tup (x_cons (ja_cons (x_C je_int) (x_cons (ja_cons (x_C je_str) (x_nil ja_nil))))))) (x_cons (ja_cons (x_tup (je_tup (x_cons (ja_cons (x_C je_int) (x_cons (ja_cons (x_C je_non) (x_nil ja_nil))))))) (x_nil ja_nil)))))))))))))))))))
    (y_seq (jss_cons (y_if (js_if (x_tb2 (jt_cmp z_gt (x_B (je_callB k_len T.len_ rfl (x_cons (ja_cons (x_lc (je_lc (own := [("pair", 15)]) rfl (x_seqI (ji_seq (x_V (je_v 14)))) (by kernel_rfl) (x_gN (jg_n 15)) (jts_one (x_notT (jt_not (x_tru (jt_tru (x_call (je_call (m := 2) (FnS.blk G__law_refused) (x_cons (ja_cons (x_ix (je_ix (x_V (je_v 15)) (x_C je_int))) (x_cons (ja_cons (x_ix (je_ix (x_V (je_v 15)) (x_C je_int))) (x_nil ja_nil)))))))))))) (x_V (je_v 15)))) (x_nil ja_nil))))) (x_C je_int))) (jss_one (y_ret (js_ret (x_C je_bl)))) (y_nil jss_nil)))
    (jss_one (y_ret (js_ret (x_2 (je_cmp z_eq (x_lc (je_lc (own := [("value", 16)]) rfl (x_seqI (ji_seq (x_tup (je_tup (x_cons (ja_cons (x_C je_str) (x_cons (ja_cons (x_C je_str) (x_cons (ja_cons (x_C je_str) (x_cons (ja_cons (x_C je_non) (x_cons (ja_cons (x_C je_int) (x_cons (ja_cons (x_C je_str) (x_nil ja_nil))))))))))))))))) (by kernel_rfl) (x_gN (jg_n 16)) (x_yes jts_nil) (x_call (je_call (m := 1) (FnS.blk G_is_line) (x_cons (ja_cons (x_V (je_v 16)) (x_nil ja_nil))))))) (x_lst (je_lst (x_cons (ja_cons (x_C je_bl) (x_cons (ja_cons (x_C je_bl) (x_cons (ja_cons (x_C je_bl) (x_cons (ja_cons (x_C je_bl) (x_cons (ja_cons (x_C je_bl) (x_cons (ja_cons (x_C je_bl) (x_nil ja_nil))))))))))))))))))))))))))))))
end
end k05
-- parts: G_k05
set_option Elab.async false
set_option linter.all false
set_option maxRecDepth 100000
set_option maxHeartbeats 1000000
namespace k05
open PySem PySem.Spec PyProof.Rows L2 PP
local macro_rules | `(tactic| dsimp! [$xs:simpLemma,*]) => `(tactic| simp only [q0, q1, q2, q3, q4, q5, q6, q7, q8, q9, q10, q11, q12, q13, q14, q15, q16, q17, q18, q19, q20, q21, q22, q23, q24, q25, q26, q27, q28, q29, q30, q31, q32, q33, q34, q35, q36, q37, q38, q39, q40, q41, q42, q43, q44, q45, q46, q47, q48, q49, q50, q51, q52, q53, q54, q55, q56, q57, q58, q59, q60, q61, q62, q63, q64, q65, q66, q67, q68, q69, q70, q71, q72, q73, q74, q75, q76, q77, q78, q79, q80, q81, q82, q83, q84, q85, q86, q87, q88, q89, q90, q91, q92, q93, q94, q95, q96, q97, q98, q99, q100, q101, q102, q103, q104, q105, q106, q107, q108, q109, q110, q111, q112, q113, q114, q115, q116, q117, q118, q119, q120, q121, q122, q123, q124, q125, q126, q127, q128, q129, q130, q131, q132, q133, q134, q135, q136, q137, q138, q139, q140, q141, q142, q143, q144, q145, q146, q147, q148, q149, q150, q151, q152, q153, q154, q155, q156, q157, q158, q159, q160, q161, q162, q163, q164, q165, q166, q167, q168, q169, q170, q171, q172, q173, q174, q175, q176, q177, q178, q179, q180, q181, q182, q183, q184, q185, q186, q187, q188, q189, q190, q191, q192, q193, q194, q195, q196, q197, q198, q199, q200, q201, q202, q203, q204, q205, q206, q207, q208, q209, q210, q211, q212, q213, q214, q215, q216, q217, q218, q219, q220, q221, q222, q223, q224, q225, q226, q227, q228, q229, q230, q231, q232, q233, q234, q235, q236, q237, q238, q239, q240, q241, q242, q243, q244, q245, q246, q247, q248, q249, q250, q251, q252, q253, q254, q255, q256, q257, q258, q259, q260, q261, q262, q263, q264, q265, q266, q267, q268, q269, q270, q271, q272, q273, q274, q275, q276, q277, q278, q279, q280, q281, q282, q283, q284, q285, q286, q287, q288, q289, q290, q291, q292, q293, q294, q295, q296, q297, q298, q299, q300, q301, q302, q303, q304, q305, q306, q307, q308, q309, q310, q311, q312, q313, q314, q315, q316, q317, q318, q319, q320, q321, q322, q323, q324, q325, q326, q327, q328, q329, q330, q331, q332, q333, q334, q335, q336, q337, q338, q339, q340, q341, q342, q343, q344, q345, q346, q347, q348, q349, q350, q351, q352, q353, q354, q355, q356, q357, q358, q359, q360, q361, q362, q363, q364, q365, q366, q367, q368, q369, q370, q371, q372, q373, q374, q375, q376, q377, q378, q379, q380, q381, q382, q383, q384, q385, q386, q387, q388, q389, q390, q391, q392, q393, q394, q395, q396, q397, q398, q399, q400, q401, q402, q403, q404, q405, q406, q407, q408, q409, q410, q411, q412, q413, q414, q415, q416, q417, q418, q419, q420, q421, q422, q423, q424, q425, q426, q427, q428, q429, q430, q431, qsI, qlI, qcI, quI, qeI, qtI, qfI, qm6, qm7, cmulR, cmulL, cdivL, fitL, castL, cpowL, q452, q453, atL, atN1, ixL, q457, q458, q459, q460, q461, q462, q463, q464, q465, q466, q467, q468, q469, q470, q471, q472, q473, q474, q475, q476, q477, q478, q479, q480, q481, q482, q483, q484, q485, q486, q487, q488, List.getElem?_cons_zero, List.getElem?_cons_succ, List.set_cons_zero, List.set_cons_succ, List.length_cons, List.length_nil, List.map_cons, List.map_nil, List.append_nil, List.nil_append, List.cons_append, Option.map_some, Option.map_none, Option.bind_some, Option.bind_none, decide_eq_true_eq, Bool.not_eq_true, Bool.not_not, Bool.not_true, Bool.not_false, Bool.and_eq_true, Bool.or_eq_true, Bool.not_eq_true', decide_eq_false_iff_not, Bool.false_eq_true, if_true, if_false, ite_true, ite_false, ite_self, reduceIte, sizeLine_eq, decide_true, decide_false, Bool.true_and, Bool.and_true, Bool.false_and, Bool.and_false, Bool.true_or, Bool.or_true, Bool.false_or, Bool.or_false, true_and, and_true, false_and, and_false, true_or, or_true, false_or, or_false, not_true_eq_false, not_false_eq_true, Bool.if_true_left, Bool.if_true_right, Bool.if_false_left, Bool.if_false_right, Bool.decide_eq_true, Bool.decide_eq_false, bne_iff_ne, ne_eq, Bool.decide_and, Bool.decide_or, Nat.zero_add, wipe_nil, wipe_cons, back_nil, back_cons, backS_v, backS_o, backS_n, Int.toNat_natCast, Nat.reduceAdd, Nat.reduceSub, Nat.reduceMul, Nat.reduceLT, Nat.reduceLeDiff, Nat.reduceEqDiff, Nat.reducePow, Int.reduceAdd, Int.reduceSub, Int.reduceMul, Int.reduceNeg, Int.reduceDiv, Int.reduceMod, Int.reducePow, Int.reduceLT, Int.reduceLE, Int.reduceGT, Int.reduceGE, Int.reduceEq, Int.reduceNe, Int.reduceToNat, List.all_cons, List.all_nil, List.zip_cons_cons, List.zip_nil_left, Bool.and_eq_false_iff, Bool.or_eq_false_iff, Bool.not_eq_false, Int.ofNat_zero, Int.ofNat_one, Nat.reduceDiv, Nat.reduceMod, List.isEmpty_cons, List.isEmpty_nil, eq_self, rxt1, rxt2, rxt3, rxt4, o1, o2, o3, o4, o5, o6, o7, o8, o9, o10, o11, o12, o13, o14, o15, o16, o17, o18, o19, o20, o21, n1, n2, n3, n4, n5, n6, n7, n8, n9, n10, y1, y2, y3, y4, y5, y6, PP.upd_at, PP.upd_upd, zz1, zz2, zz3, zz4, zz5, zz6, zz7, zz8, zz9, zz10, zz11, zz12, dd1, dd2, dd3, dd4, dd5, dd6, dd7, dd8, dd9, dd10, dd11, dd12, dd13, dd14, dd15, dd16, tb_BadLine_BadLine, ti_ValueError_BadLine, cf_cut_Feeder, cf_most_Feeder, cf_rest_Feeder, pf_Feeder_most_0, lk_Feeder_feed_0, lk_Feeder_end_0, lk_Feeder_most_1, pf_Feeder_most_1, pf_Feeder_rest_1, lk_Feeder_feed_1, lk_Feeder_end_1, lk_Feeder_most_2, pf_Feeder_most_2, lk_Feeder_rest_2, pf_Feeder_rest_2, pf_Feeder_cut_2, lk_Feeder_feed_2, lk_Feeder_end_2, lk_Feeder_most_3, pf_Feeder_most_3, lk_Feeder_rest_3, pf_Feeder_rest_3, lk_Feeder_cut_3, pf_Feeder_cut_3, lk_Feeder_feed_3, lk_Feeder_end_3, B__law_split_0_eq, B_feed_0_eq, B_law_0_eq, C_law_1_eq, B_law_2_eq, $xs:simpLemma,*])
local macro_rules | `(tactic| dsimp! [$xs:simpLemma,*] at $h:ident) => `(tactic| simp only [q0, q1, q2, q3, q4, q5, q6, q7, q8, q9, q10, q11, q12, q13, q14, q15, q16, q17, q18, q19, q20, q21, q22, q23, q24, q25, q26, q27, q28, q29, q30, q31, q32, q33, q34, q35, q36, q37, q38, q39, q40, q41, q42, q43, q44, q45, q46, q47, q48, q49, q50, q51, q52, q53, q54, q55, q56, q57, q58, q59, q60, q61, q62, q63, q64, q65, q66, q67, q68, q69, q70, q71, q72, q73, q74, q75, q76, q77, q78, q79, q80, q81, q82, q83, q84, q85, q86, q87, q88, q89, q90, q91, q92, q93, q94, q95, q96, q97, q98, q99, q100, q101, q102, q103, q104, q105, q106, q107, q108, q109, q110, q111, q112, q113, q114, q115, q116, q117, q118, q119, q120, q121, q122, q123, q124, q125, q126, q127, q128, q129, q130, q131, q132, q133, q134, q135, q136, q137, q138, q139, q140, q141, q142, q143, q144, q145, q146, q147, q148, q149, q150, q151, q152, q153, q154, q155, q156, q157, q158, q159, q160, q161, q162, q163, q164, q165, q166, q167, q168, q169, q170, q171, q172, q173, q174, q175, q176, q177, q178, q179, q180, q181, q182, q183, q184, q185, q186, q187, q188, q189, q190, q191, q192, q193, q194, q195, q196, q197, q198, q199, q200, q201, q202, q203, q204, q205, q206, q207, q208, q209, q210, q211, q212, q213, q214, q215, q216, q217, q218, q219, q220, q221, q222, q223, q224, q225, q226, q227, q228, q229, q230, q231, q232, q233, q234, q235, q236, q237, q238, q239, q240, q241, q242, q243, q244, q245, q246, q247, q248, q249, q250, q251, q252, q253, q254, q255, q256, q257, q258, q259, q260, q261, q262, q263, q264, q265, q266, q267, q268, q269, q270, q271, q272, q273, q274, q275, q276, q277, q278, q279, q280, q281, q282, q283, q284, q285, q286, q287, q288, q289, q290, q291, q292, q293, q294, q295, q296, q297, q298, q299, q300, q301, q302, q303, q304, q305, q306, q307, q308, q309, q310, q311, q312, q313, q314, q315, q316, q317, q318, q319, q320, q321, q322, q323, q324, q325, q326, q327, q328, q329, q330, q331, q332, q333, q334, q335, q336, q337, q338, q339, q340, q341, q342, q343, q344, q345, q346, q347, q348, q349, q350, q351, q352, q353, q354, q355, q356, q357, q358, q359, q360, q361, q362, q363, q364, q365, q366, q367, q368, q369, q370, q371, q372, q373, q374, q375, q376, q377, q378, q379, q380, q381, q382, q383, q384, q385, q386, q387, q388, q389, q390, q391, q392, q393, q394, q395, q396, q397, q398, q399, q400, q401, q402, q403, q404, q405, q406, q407, q408, q409, q410, q411, q412, q413, q414, q415, q416, q417, q418, q419, q420, q421, q422, q423, q424, q425, q426, q427, q428, q429, q430, q431, qsI, qlI, qcI, quI, qeI, qtI, qfI, qm6, qm7, cmulR, cmulL, cdivL, fitL, castL, cpowL, q452, q453, atL, atN1, ixL, q457, q458, q459, q460, q461, q462, q463, q464, q465, q466, q467, q468, q469, q470, q471, q472, q473, q474, q475, q476, q477, q478, q479, q480, q481, q482, q483, q484, q485, q486, q487, q488, List.getElem?_cons_zero, List.getElem?_cons_succ, List.set_cons_zero, List.set_cons_succ, List.length_cons, List.length_nil, List.map_cons, List.map_nil, List.append_nil, List.nil_append, List.cons_append, Option.map_some, Option.map_none, Option.bind_some, Option.bind_none, decide_eq_true_eq, Bool.not_eq_true, Bool.not_not, Bool.not_true, Bool.not_false, Bool.and_eq_true, Bool.or_eq_true, Bool.not_eq_true', decide_eq_false_iff_not, Bool.false_eq_true, if_true, if_false, ite_true, ite_false, ite_self, reduceIte, sizeLine_eq, decide_true, decide_false, Bool.true_and, Bool.and_true, Bool.false_and, Bool.and_false, Bool.true_or, Bool.or_true, Bool.false_or, Bool.or_false, true_and, and_true, false_and, and_false, true_or, or_true, false_or, or_false, not_true_eq_false, not_false_eq_true, Bool.if_true_left, Bool.if_true_right, Bool.if_false_left, Bool.if_false_right, Bool.decide_eq_true, Bool.decide_eq_false, bne_iff_ne, ne_eq, Bool.decide_and, Bool.decide_or, Nat.zero_add, wipe_nil, wipe_cons, back_nil, back_cons, backS_v, backS_o, backS_n, Int.toNat_natCast, Nat.reduceAdd, Nat.reduceSub, Nat.reduceMul, Nat.reduceLT, Nat.reduceLeDiff, Nat.reduceEqDiff, Nat.reducePow, Int.reduceAdd, Int.reduceSub, Int.reduceMul, Int.reduceNeg, Int.reduceDiv, Int.reduceMod, Int.reducePow, Int.reduceLT, Int.reduceLE, Int.reduceGT, Int.reduceGE, Int.reduceEq, Int.reduceNe, Int.reduceToNat, List.all_cons, List.all_nil, List.zip_cons_cons, List.zip_nil_left, Bool.and_eq_false_iff, Bool.or_eq_false_iff, Bool.not_eq_false, Int.ofNat_zero, Int.ofNat_one, Nat.reduceDiv, Nat.reduceMod, List.isEmpty_cons, List.isEmpty_nil, eq_self, rxt1, rxt2, rxt3, rxt4, o1, o2, o3, o4, o5, o6, o7, o8, o9, o10, o11, o12, o13, o14, o15, o16, o17, o18, o19, o20, o21, n1, n2, n3, n4, n5, n6, n7, n8, n9, n10, y1, y2, y3, y4, y5, y6, PP.upd_at, PP.upd_upd, zz1, zz2, zz3, zz4, zz5, zz6, zz7, zz8, zz9, zz10, zz11, zz12, dd1, dd2, dd3, dd4, dd5, dd6, dd7, dd8, dd9, dd10, dd11, dd12, dd13, dd14, dd15, dd16, tb_BadLine_BadLine, ti_ValueError_BadLine, cf_cut_Feeder, cf_most_Feeder, cf_rest_Feeder, pf_Feeder_most_0, lk_Feeder_feed_0, lk_Feeder_end_0, lk_Feeder_most_1, pf_Feeder_most_1, pf_Feeder_rest_1, lk_Feeder_feed_1, lk_Feeder_end_1, lk_Feeder_most_2, pf_Feeder_most_2, lk_Feeder_rest_2, pf_Feeder_rest_2, pf_Feeder_cut_2, lk_Feeder_feed_2, lk_Feeder_end_2, lk_Feeder_most_3, pf_Feeder_most_3, lk_Feeder_rest_3, pf_Feeder_rest_3, lk_Feeder_cut_3, pf_Feeder_cut_3, lk_Feeder_feed_3, lk_Feeder_end_3, B__law_split_0_eq, B_feed_0_eq, B_law_0_eq, C_law_1_eq, B_law_2_eq, $xs:simpLemma,*] at $h:ident)
theorem l_nl : ("\n" : Str) = sT [10] := by decide
def lineX : PX := ⟨"BadLine", []⟩
def okc (c : Nat) : Bool := sgB c && !decide (c = 10)
theorem ln_sT {p : List Nat} : lnB (sT p) = p.all okc := by
  unfold lnB
  rw [tx_sT, sT_cps, Bool.eq_iff_iff]
  unfold okc
  simp only [Bool.and_eq_true, List.all_eq_true, Bool.not_eq_true', decide_eq_false_iff_not]
  constructor
  · rintro ⟨a, b⟩ x hx
    exact ⟨a x hx, fun e => b (by rw [← e]; exact hx)⟩
  · intro a
    exact ⟨fun x hx => (a x hx).1, fun z => (a 10 z).2 rfl⟩
def Lk (l : Ln) : Prop := l.length ≤ 100 ∧ l.all okc = true
def Lks (ls : List Ln) : Prop := ls.length ≤ 100 ∧ ∀ l ∈ ls, Lk l
theorem sp_ok {cs : Ln} (h : cs.all sgB = true) (hl : cs.length ≤ 100) : Lks (sp [] cs).1 ∧ Lk (sp [] cs).2 := by
  obtain ⟨a, b⟩ := sp_mem cs []
  obtain ⟨x, y, z⟩ := sp_len cs []
  rw [List.all_eq_true] at h
  have key : ∀ c, (c ∈ ([] : Ln) ∨ c ∈ cs ∧ c ≠ 10) → okc c = true := fun c hc => by
    rcases hc with hc | hc
    · cases hc
    · unfold okc; rw [h c hc.1]; simpa using hc.2
  refine ⟨⟨by omega, fun l hl' => ⟨by have := y l hl'; simp at this; omega, ?_⟩⟩, by simp at z; omega, ?_⟩
  · rw [List.all_eq_true]; exact fun c hc => key c (a l hl' c hc)
  · rw [List.all_eq_true]; exact fun c hc => key c (b c hc)
theorem cutP_m1 {xs : List PV} {y : PV} : cutP (xs ++ [y]) none (some (-1)) = xs := by
  unfold cutP
  rw [HT.sIx_none]
  have e : HT.sIx (xs ++ [y]).length (xs ++ [y]).length (some (-1)) = xs.length := by
    unfold HT.sIx
    simp
    omega
  rw [e]
  simp
section
variable {h : PH}
theorem f_ln {l : Ln} (g : Lk l) : F_is_line [.str (sT l)] h = .ok (.val (.bl true)) h := by
  rw [f_line (sz_sT (by have := g.1; omega)), ln_sT, g.2]
theorem l_bad {l : Ln} (hl : l.length ≤ 1000) (b : l.all okc = false) : F_is_line [.str (sT l)] h = .ok (.val (.bl false)) h := by
  rw [f_line (sz_sT (by omega)), ln_sT, b]
theorem f_tx {l : Ln} (hl : l.length ≤ 1000) : F_is_text [.str (sT l)] h = .ok (.val (.bl (l.all sgB))) h := by
  rw [f_text (sz_sT (by omega)), tx_sT]
theorem e_look1 {l : Ln} (g : Lk l) : F_look_at_line [.str (sT l)] h = .ok (.val .non) h := by
  rw [u_look_at_line]; unfold R_look_at_line
  have e := f_ln (h := h) g
  dsimp! [e]
theorem e_look1_bad {x : PV} (v : ∀ h, vwp h x = x) (e : F_is_line [x] h = .ok (.val (.bl false)) h) : F_look_at_line [x] h = .ex lineX h := by
  rw [u_look_at_line]; unfold R_look_at_line
  dsimp! [v, e]
  rfl
theorem e_look {ls : List Ln} (g : Lks ls) : F_look_at_lines [.tup (ls.map tP)] h = .ok (.val .non) h := by
  have lc : lcI (tN 1) rYes (rCall 1 F_is_line [] (rCons (rV 1) rNil)) [1] (ls.map tP) [] [some (.val (.tup (ls.map tP))), none] h = .ok ((ls.map fun _ => true).map .bl) [some (.val (.tup (ls.map tP))), none] h :=
    lc_mapL tP (fun _ => true) PV.bl ls (fun l hl => ⟨[some (.val (.tup (ls.map tP))), some (.val (tP l))], by
      have e := f_ln (h := h) (g.2 l hl)
      dsimp! [e], rfl⟩) (by rw [sizeLine_eq]; have := g.1; omega)
  rw [u_look_at_lines]; unfold R_look_at_lines
  dsimp! [lc, blL_map, all_tt]
theorem e_split {cs : Ln} (g : cs.all sgB = true) (hl : cs.length ≤ 100) : F_split_lines [.str (sT cs)] h = .ok (.val (.tup [.tup ((sp [] cs).1.map tP), .str (sT (sp [] cs).2)])) h := by
  rw [u_split_lines]; unfold R_split_lines
  have e1 := f_tx (h := h) (l := cs) (by omega)
  rw [g] at e1
  have l1 : (sT [10]).length = 1 := by rw [sT_len]; rfl
  have l2 : cs.length + 2 ≤ 16777216 := by omega
  have b0 : ((1 : Nat) == 0) = false := rfl
  have ss : Txt.split (sT cs) (sT [10]) = ((sp [] cs).1 ++ [(sp [] cs).2]).map sT := split_sT
  have m1 : (((sp [] cs).1 ++ [(sp [] cs).2]).map sT).map PV.str = (sp [] cs).1.map tP ++ [.str (sT (sp [] cs).2)] := by
    rw [List.map_map, List.map_append]; rfl
  have sl := (sp_len cs []).1
  have l3 : (sp [] cs).1.length ≤ 16777216 := by omega
  dsimp! [e1, l_nl, spl_eq, l1, b0, sT_len, l2, ss, m1, cutP_m1, List.length_map, l3, List.getLast?_concat]
theorem jn_len : ∀ (ls : List Ln), (jn ls).length = (ls.map fun l => l.length + 1).sum
  | [] => rfl
  | l :: ls => by
    have := jn_len ls
    unfold jn at this ⊢
    rw [List.flatMap_cons, List.length_append, this]; simp
theorem jn_flat {ls : List Ln} : (ls.map fun l => l ++ [10]).flatten = jn ls := by unfold jn; rw [List.flatMap_def]
theorem nl_lc {σ0 : Option SV} {a0 a1 : Option SV} {ls : List Ln} (g : Lks ls) : lcI (tN 2) rYes (r2 gAdd (rV 2) (rC (.str "\n"))) [2] (ls.map tP) [] [a0, a1, none] h = .ok (((ls.map fun l => l ++ [10]).map sT).map .str) [a0, a1, none] h := by
  rw [show (ls.map fun l => l ++ [10]).map sT = ls.map fun l => sT (l ++ [10]) by rw [List.map_map]; rfl]
  exact lc_mapL tP (fun l => sT (l ++ [10])) PV.str ls (fun l hl => ⟨[a0, a1, some (.val (tP l))], by
    have k := (g.2 l hl).1
    have l1 : l.length ≤ 16777215 := by omega
    have l2 : l.length + 1 ≤ 16777216 := by omega
    have l3 : [10].length = 1 := rfl
    dsimp! [l_nl, sT_len, l1, l2, l3, sT_app], rfl⟩) (by rw [sizeLine_eq]; have := g.1; omega)
theorem e_join {ls : List Ln} {r : Ln} (g : Lks ls) (gr : Lk r) (hj : (jn ls).length ≤ 100000) : F_join_lines [.tup (ls.map tP), .str (sT r)] h = .ok (.val (.str (sT (jn ls ++ r)))) h := by
  rw [u_join_lines]; unfold R_join_lines
  have e1 := e_look (h := h) g
  have e2 := e_look1 (h := h) gr
  have e3 := nl_lc (h := h) (σ0 := none) (a0 := some (.val (.tup (ls.map tP)))) (a1 := some (.val (.str (sT r)))) g
  have jo := join_okT (ls := ls.map fun l => l ++ [10]) (by rw [jn_flat]; omega)
  have jt := join_T (ls.map fun l => l ++ [10])
  rw [jn_flat] at jt
  have l1 : (jn ls).length + r.length ≤ 16777216 := by have := gr.1; omega
  dsimp! [e1, e2, e3, strL_map, jo, jt, sT_len, l1, sT_app]
def mxL (ls : List Ln) : Nat := ls.foldl (fun a l => max a l.length) 0
theorem max_ints : ∀ (ns : List Int) (a : Int), (a :: ns).max? = some (ns.foldl max a) := fun ns a => rfl
theorem e_longest {ls : List Ln} (g : Lks ls) : ∃ n : Int, F_longest [.tup (ls.map tP)] h = .ok (.val (.int n)) h ∧ (0 :: ls.map fun l => (l.length : Int)).max? = some n := by
  refine ⟨_, ?_, max_ints _ _⟩
  rw [u_longest]; unfold R_longest
  have e1 := e_look (h := h) g
  have lc : lcI (tN 1) rYes (rB gLen (rCons (rV 1) rNil)) [1] (ls.map tP) [] [some (.val (.tup (ls.map tP))), none] h = .ok ((ls.map fun l => (l.length : Int)).map .int) [some (.val (.tup (ls.map tP))), none] h :=
    lc_mapL tP (fun l => (l.length : Int)) PV.int ls (fun l hl => ⟨[some (.val (.tup (ls.map tP))), some (.val (tP l))], by
      have l1 : l.length ≤ 16777216 := by have := (g.2 l hl).1; omega
      dsimp! [sT_len, l1], rfl⟩) (by rw [sizeLine_eq]; have := g.1; omega)
  have il : intL (.int 0 :: (ls.map fun l => (l.length : Int)).map .int) = some (0 :: ls.map fun l => (l.length : Int)) := by
    have := intL_map (0 :: ls.map fun l => (l.length : Int))
    rw [List.map_cons] at this
    exact this
  have mx := max_ints (ls.map fun l => (l.length : Int)) 0
  have l1 : ls.length ≤ 16777215 := by have := g.1; omega
  have l2 : 1 + ls.length ≤ 16777216 := by have := g.1; omega
  dsimp! [e1, lc, List.length_map, l1, l2, il, mx]
end
end k05
-- parts: G_k05
set_option Elab.async false
set_option linter.all false
set_option maxRecDepth 100000
set_option maxHeartbeats 1000000
namespace k05
open PySem PySem.Spec PyProof.Rows L2 PP
local macro_rules | `(tactic| dsimp! [$xs:simpLemma,*]) => `(tactic| simp only [q0, q1, q2, q3, q4, q5, q6, q7, q8, q9, q10, q11, q12, q13, q14, q15, q16, q17, q18, q19, q20, q21, q22, q23, q24, q25, q26, q27, q28, q29, q30, q31, q32, q33, q34, q35, q36, q37, q38, q39, q40, q41, q42, q43, q44, q45, q46, q47, q48, q49, q50, q51, q52, q53, q54, q55, q56, q57, q58, q59, q60, q61, q62, q63, q64, q65, q66, q67, q68, q69, q70, q71, q72, q73, q74, q75, q76, q77, q78, q79, q80, q81, q82, q83, q84, q85, q86, q87, q88, q89, q90, q91, q92, q93, q94, q95, q96, q97, q98, q99, q100, q101, q102, q103, q104, q105, q106, q107, q108, q109, q110, q111, q112, q113, q114, q115, q116, q117, q118, q119, q120, q121, q122, q123, q124, q125, q126, q127, q128, q129, q130, q131, q132, q133, q134, q135, q136, q137, q138, q139, q140, q141, q142, q143, q144, q145, q146, q147, q148, q149, q150, q151, q152, q153, q154, q155, q156, q157, q158, q159, q160, q161, q162, q163, q164, q165, q166, q167, q168, q169, q170, q171, q172, q173, q174, q175, q176, q177, q178, q179, q180, q181, q182, q183, q184, q185, q186, q187, q188, q189, q190, q191, q192, q193, q194, q195, q196, q197, q198, q199, q200, q201, q202, q203, q204, q205, q206, q207, q208, q209, q210, q211, q212, q213, q214, q215, q216, q217, q218, q219, q220, q221, q222, q223, q224, q225, q226, q227, q228, q229, q230, q231, q232, q233, q234, q235, q236, q237, q238, q239, q240, q241, q242, q243, q244, q245, q246, q247, q248, q249, q250, q251, q252, q253, q254, q255, q256, q257, q258, q259, q260, q261, q262, q263, q264, q265, q266, q267, q268, q269, q270, q271, q272, q273, q274, q275, q276, q277, q278, q279, q280, q281, q282, q283, q284, q285, q286, q287, q288, q289, q290, q291, q292, q293, q294, q295, q296, q297, q298, q299, q300, q301, q302, q303, q304, q305, q306, q307, q308, q309, q310, q311, q312, q313, q314, q315, q316, q317, q318, q319, q320, q321, q322, q323, q324, q325, q326, q327, q328, q329, q330, q331, q332, q333, q334, q335, q336, q337, q338, q339, q340, q341, q342, q343, q344, q345, q346, q347, q348, q349, q350, q351, q352, q353, q354, q355, q356, q357, q358, q359, q360, q361, q362, q363, q364, q365, q366, q367, q368, q369, q370, q371, q372, q373, q374, q375, q376, q377, q378, q379, q380, q381, q382, q383, q384, q385, q386, q387, q388, q389, q390, q391, q392, q393, q394, q395, q396, q397, q398, q399, q400, q401, q402, q403, q404, q405, q406, q407, q408, q409, q410, q411, q412, q413, q414, q415, q416, q417, q418, q419, q420, q421, q422, q423, q424, q425, q426, q427, q428, q429, q430, q431, qsI, qlI, qcI, quI, qeI, qtI, qfI, qm6, qm7, cmulR, cmulL, cdivL, fitL, castL, cpowL, q452, q453, atL, atN1, ixL, q457, q458, q459, q460, q461, q462, q463, q464, q465, q466, q467, q468, q469, q470, q471, q472, q473, q474, q475, q476, q477, q478, q479, q480, q481, q482, q483, q484, q485, q486, q487, q488, List.getElem?_cons_zero, List.getElem?_cons_succ, List.set_cons_zero, List.set_cons_succ, List.length_cons, List.length_nil, List.map_cons, List.map_nil, List.append_nil, List.nil_append, List.cons_append, Option.map_some, Option.map_none, Option.bind_some, Option.bind_none, decide_eq_true_eq, Bool.not_eq_true, Bool.not_not, Bool.not_true, Bool.not_false, Bool.and_eq_true, Bool.or_eq_true, Bool.not_eq_true', decide_eq_false_iff_not, Bool.false_eq_true, if_true, if_false, ite_true, ite_false, ite_self, reduceIte, sizeLine_eq, decide_true, decide_false, Bool.true_and, Bool.and_true, Bool.false_and, Bool.and_false, Bool.true_or, Bool.or_true, Bool.false_or, Bool.or_false, true_and, and_true, false_and, and_false, true_or, or_true, false_or, or_false, not_true_eq_false, not_false_eq_true, Bool.if_true_left, Bool.if_true_right, Bool.if_false_left, Bool.if_false_right, Bool.decide_eq_true, Bool.decide_eq_false, bne_iff_ne, ne_eq, Bool.decide_and, Bool.decide_or, Nat.zero_add, wipe_nil, wipe_cons, back_nil, back_cons, backS_v, backS_o, backS_n, Int.toNat_natCast, Nat.reduceAdd, Nat.reduceSub, Nat.reduceMul, Nat.reduceLT, Nat.reduceLeDiff, Nat.reduceEqDiff, Nat.reducePow, Int.reduceAdd, Int.reduceSub, Int.reduceMul, Int.reduceNeg, Int.reduceDiv, Int.reduceMod, Int.reducePow, Int.reduceLT, Int.reduceLE, Int.reduceGT, Int.reduceGE, Int.reduceEq, Int.reduceNe, Int.reduceToNat, List.all_cons, List.all_nil, List.zip_cons_cons, List.zip_nil_left, Bool.and_eq_false_iff, Bool.or_eq_false_iff, Bool.not_eq_false, Int.ofNat_zero, Int.ofNat_one, Nat.reduceDiv, Nat.reduceMod, List.isEmpty_cons, List.isEmpty_nil, eq_self, rxt1, rxt2, rxt3, rxt4, o1, o2, o3, o4, o5, o6, o7, o8, o9, o10, o11, o12, o13, o14, o15, o16, o17, o18, o19, o20, o21, n1, n2, n3, n4, n5, n6, n7, n8, n9, n10, y1, y2, y3, y4, y5, y6, PP.upd_at, PP.upd_upd, zz1, zz2, zz3, zz4, zz5, zz6, zz7, zz8, zz9, zz10, zz11, zz12, dd1, dd2, dd3, dd4, dd5, dd6, dd7, dd8, dd9, dd10, dd11, dd12, dd13, dd14, dd15, dd16, tb_BadLine_BadLine, ti_ValueError_BadLine, cf_cut_Feeder, cf_most_Feeder, cf_rest_Feeder, pf_Feeder_most_0, lk_Feeder_feed_0, lk_Feeder_end_0, lk_Feeder_most_1, pf_Feeder_most_1, pf_Feeder_rest_1, lk_Feeder_feed_1, lk_Feeder_end_1, lk_Feeder_most_2, pf_Feeder_most_2, lk_Feeder_rest_2, pf_Feeder_rest_2, pf_Feeder_cut_2, lk_Feeder_feed_2, lk_Feeder_end_2, lk_Feeder_most_3, pf_Feeder_most_3, lk_Feeder_rest_3, pf_Feeder_rest_3, lk_Feeder_cut_3, pf_Feeder_cut_3, lk_Feeder_feed_3, lk_Feeder_end_3, B__law_split_0_eq, B_feed_0_eq, B_law_0_eq, C_law_1_eq, B_law_2_eq, $xs:simpLemma,*])
local macro_rules | `(tactic| dsimp! [$xs:simpLemma,*] at $h:ident) => `(tactic| simp only [q0, q1, q2, q3, q4, q5, q6, q7, q8, q9, q10, q11, q12, q13, q14, q15, q16, q17, q18, q19, q20, q21, q22, q23, q24, q25, q26, q27, q28, q29, q30, q31, q32, q33, q34, q35, q36, q37, q38, q39, q40, q41, q42, q43, q44, q45, q46, q47, q48, q49, q50, q51, q52, q53, q54, q55, q56, q57, q58, q59, q60, q61, q62, q63, q64, q65, q66, q67, q68, q69, q70, q71, q72, q73, q74, q75, q76, q77, q78, q79, q80, q81, q82, q83, q84, q85, q86, q87, q88, q89, q90, q91, q92, q93, q94, q95, q96, q97, q98, q99, q100, q101, q102, q103, q104, q105, q106, q107, q108, q109, q110, q111, q112, q113, q114, q115, q116, q117, q118, q119, q120, q121, q122, q123, q124, q125, q126, q127, q128, q129, q130, q131, q132, q133, q134, q135, q136, q137, q138, q139, q140, q141, q142, q143, q144, q145, q146, q147, q148, q149, q150, q151, q152, q153, q154, q155, q156, q157, q158, q159, q160, q161, q162, q163, q164, q165, q166, q167, q168, q169, q170, q171, q172, q173, q174, q175, q176, q177, q178, q179, q180, q181, q182, q183, q184, q185, q186, q187, q188, q189, q190, q191, q192, q193, q194, q195, q196, q197, q198, q199, q200, q201, q202, q203, q204, q205, q206, q207, q208, q209, q210, q211, q212, q213, q214, q215, q216, q217, q218, q219, q220, q221, q222, q223, q224, q225, q226, q227, q228, q229, q230, q231, q232, q233, q234, q235, q236, q237, q238, q239, q240, q241, q242, q243, q244, q245, q246, q247, q248, q249, q250, q251, q252, q253, q254, q255, q256, q257, q258, q259, q260, q261, q262, q263, q264, q265, q266, q267, q268, q269, q270, q271, q272, q273, q274, q275, q276, q277, q278, q279, q280, q281, q282, q283, q284, q285, q286, q287, q288, q289, q290, q291, q292, q293, q294, q295, q296, q297, q298, q299, q300, q301, q302, q303, q304, q305, q306, q307, q308, q309, q310, q311, q312, q313, q314, q315, q316, q317, q318, q319, q320, q321, q322, q323, q324, q325, q326, q327, q328, q329, q330, q331, q332, q333, q334, q335, q336, q337, q338, q339, q340, q341, q342, q343, q344, q345, q346, q347, q348, q349, q350, q351, q352, q353, q354, q355, q356, q357, q358, q359, q360, q361, q362, q363, q364, q365, q366, q367, q368, q369, q370, q371, q372, q373, q374, q375, q376, q377, q378, q379, q380, q381, q382, q383, q384, q385, q386, q387, q388, q389, q390, q391, q392, q393, q394, q395, q396, q397, q398, q399, q400, q401, q402, q403, q404, q405, q406, q407, q408, q409, q410, q411, q412, q413, q414, q415, q416, q417, q418, q419, q420, q421, q422, q423, q424, q425, q426, q427, q428, q429, q430, q431, qsI, qlI, qcI, quI, qeI, qtI, qfI, qm6, qm7, cmulR, cmulL, cdivL, fitL, castL, cpowL, q452, q453, atL, atN1, ixL, q457, q458, q459, q460, q461, q462, q463, q464, q465, q466, q467, q468, q469, q470, q471, q472, q473, q474, q475, q476, q477, q478, q479, q480, q481, q482, q483, q484, q485, q486, q487, q488, List.getElem?_cons_zero, List.getElem?_cons_succ, List.set_cons_zero, List.set_cons_succ, List.length_cons, List.length_nil, List.map_cons, List.map_nil, List.append_nil, List.nil_append, List.cons_append, Option.map_some, Option.map_none, Option.bind_some, Option.bind_none, decide_eq_true_eq, Bool.not_eq_true, Bool.not_not, Bool.not_true, Bool.not_false, Bool.and_eq_true, Bool.or_eq_true, Bool.not_eq_true', decide_eq_false_iff_not, Bool.false_eq_true, if_true, if_false, ite_true, ite_false, ite_self, reduceIte, sizeLine_eq, decide_true, decide_false, Bool.true_and, Bool.and_true, Bool.false_and, Bool.and_false, Bool.true_or, Bool.or_true, Bool.false_or, Bool.or_false, true_and, and_true, false_and, and_false, true_or, or_true, false_or, or_false, not_true_eq_false, not_false_eq_true, Bool.if_true_left, Bool.if_true_right, Bool.if_false_left, Bool.if_false_right, Bool.decide_eq_true, Bool.decide_eq_false, bne_iff_ne, ne_eq, Bool.decide_and, Bool.decide_or, Nat.zero_add, wipe_nil, wipe_cons, back_nil, back_cons, backS_v, backS_o, backS_n, Int.toNat_natCast, Nat.reduceAdd, Nat.reduceSub, Nat.reduceMul, Nat.reduceLT, Nat.reduceLeDiff, Nat.reduceEqDiff, Nat.reducePow, Int.reduceAdd, Int.reduceSub, Int.reduceMul, Int.reduceNeg, Int.reduceDiv, Int.reduceMod, Int.reducePow, Int.reduceLT, Int.reduceLE, Int.reduceGT, Int.reduceGE, Int.reduceEq, Int.reduceNe, Int.reduceToNat, List.all_cons, List.all_nil, List.zip_cons_cons, List.zip_nil_left, Bool.and_eq_false_iff, Bool.or_eq_false_iff, Bool.not_eq_false, Int.ofNat_zero, Int.ofNat_one, Nat.reduceDiv, Nat.reduceMod, List.isEmpty_cons, List.isEmpty_nil, eq_self, rxt1, rxt2, rxt3, rxt4, o1, o2, o3, o4, o5, o6, o7, o8, o9, o10, o11, o12, o13, o14, o15, o16, o17, o18, o19, o20, o21, n1, n2, n3, n4, n5, n6, n7, n8, n9, n10, y1, y2, y3, y4, y5, y6, PP.upd_at, PP.upd_upd, zz1, zz2, zz3, zz4, zz5, zz6, zz7, zz8, zz9, zz10, zz11, zz12, dd1, dd2, dd3, dd4, dd5, dd6, dd7, dd8, dd9, dd10, dd11, dd12, dd13, dd14, dd15, dd16, tb_BadLine_BadLine, ti_ValueError_BadLine, cf_cut_Feeder, cf_most_Feeder, cf_rest_Feeder, pf_Feeder_most_0, lk_Feeder_feed_0, lk_Feeder_end_0, lk_Feeder_most_1, pf_Feeder_most_1, pf_Feeder_rest_1, lk_Feeder_feed_1, lk_Feeder_end_1, lk_Feeder_most_2, pf_Feeder_most_2, lk_Feeder_rest_2, pf_Feeder_rest_2, pf_Feeder_cut_2, lk_Feeder_feed_2, lk_Feeder_end_2, lk_Feeder_most_3, pf_Feeder_most_3, lk_Feeder_rest_3, pf_Feeder_rest_3, lk_Feeder_cut_3, pf_Feeder_cut_3, lk_Feeder_feed_3, lk_Feeder_end_3, B__law_split_0_eq, B_feed_0_eq, B_law_0_eq, C_law_1_eq, B_law_2_eq, $xs:simpLemma,*] at $h:ident)
def chP (c : Nat) : PV := .str ⟨#[c]⟩
def clP (x : Cl) : PV := .tup [.str (sT x.1), .bl x.2]
abbrev fo (m : Nat) (r : Ln) (c : Bool) : PO := .ins "Feeder" [("most", .int (m : Nat)), ("rest", .str (sT r)), ("cut", .bl c)]
section
variable {h : PH} {a : Addr}
theorem e_init {m : Nat} (m1 : 1 ≤ m) : F_Feeder___init__ [.ref a, .int (m : Nat)] (updP h a (.ins "Feeder" [])) = .ok (.val .non) (updP h a (fo m [] false)) := by
  rw [u_Feeder___init__]; unfold R_Feeder___init__
  have k : ((m : Int) < 1) = False := eq_false (by omega)
  have k2 : ((m : Int) ≤ 0) = False := eq_false (by omega)
  dsimp! [f_isint_int, k, k2, lit_e]
theorem e_init_0 : F_Feeder___init__ [.ref a, .int 0] (updP h a (.ins "Feeder" [])) = .ex lineX (updP h a (.ins "Feeder" [])) := by
  rw [u_Feeder___init__]; unfold R_Feeder___init__
  dsimp! [f_isint_int]
  rfl
theorem e_init_n : F_Feeder___init__ [.ref a, .non] (updP h a (.ins "Feeder" [])) = .ex lineX (updP h a (.ins "Feeder" [])) := by
  rw [u_Feeder___init__]; unfold R_Feeder___init__
  dsimp! [f_isint_non]
  rfl
theorem e_init_t : F_Feeder___init__ [.ref a, .bl true] (updP h a (.ins "Feeder" [])) = .ex lineX (updP h a (.ins "Feeder" [])) := by
  rw [u_Feeder___init__]; unfold R_Feeder___init__
  dsimp! [f_isint_bl]
  rfl
theorem feed_loop {m : Nat} {a1 : Option SV} : ∀ (cs : List Nat) (r : Ln) (c : Bool) (acc : List Cl) (h : PH) (x3 : Option SV), acc.length + cs.length ≤ 100000 → r.length + cs.length ≤ 100000 → h a = some (fo m r c) →
    ∃ y3, forI (tN 3) B_feed_0 (cs.map chP) [some (.val (.ref a)), a1, some (.own (.lst (acc.map clP))), x3] h = .nx [some (.val (.ref a)), a1, some (.own (.lst ((acc ++ (fd m r c cs).1).map clP))), y3] (updP h a (fo m (fd m r c cs).2.1 (fd m r c cs).2.2))
  | [], r, c, acc, h, x3, _, _, e => ⟨x3, by
    have : updP h a (fo m r c) = h := by
      funext b
      unfold updP
      split
      · rename_i q; rw [q]; exact e.symm
      · rfl
    rw [List.map_nil, forR_nil, fd, List.append_nil, this]⟩
  | s :: cs, r, c, acc, h, x3, hk, hr, e => by
    simp only [List.length_cons] at hk hr
    have l1 : acc.length < 16777216 := by omega
    have w : chP s = .str (sT [s]) := rfl
    have es : (sT [s] = sT [10]) = (s = 10) := by rw [sT_inj]; simp
    rw [List.map_cons, forR_cons, fd, w]
    by_cases q : s = 10
    · have qt := eq_true q
      obtain ⟨y3, e1⟩ := feed_loop (m := m) (a1 := a1) cs [] false (acc ++ [(r, c)]) (updP h a (fo m [] false)) (some (.val (.str (sT [s])))) (by simp; omega) (by simp; omega) updP_same
      refine ⟨y3, ?_⟩
      rw [if_pos q]
      rw [show (acc ++ [(r, c)]).map clP = acc.map clP ++ [.tup [.str (sT r), .bl c]] by simp [clP], List.append_assoc, updP_updP] at e1
      dsimp! [forK_eq, l_nl, es, qt, e, List.length_map, l1, tf_1, tf_2, tf_3, lit_e]
      exact e1
    · have qf := eq_false q
      have l2 : r.length ≤ 16777216 := by omega
      rw [if_neg q]
      by_cases w : r.length < m
      · have wt : ((r.length : Int) < (m : Int)) = True := eq_true (by omega)
        have l3 : r.length ≤ 16777215 := by omega
        have l4 : r.length + 1 ≤ 16777216 := by omega
        obtain ⟨y3, e1⟩ := feed_loop (m := m) (a1 := a1) cs (r ++ [s]) c acc (updP h a (fo m (r ++ [s]) c)) (some (.val (.str (sT [s])))) (by omega) (by simp; omega) updP_same
        refine ⟨y3, ?_⟩
        rw [if_pos w]
        rw [updP_updP] at e1
        dsimp! [forK_eq, l_nl, es, qf, e, sT_len, l2, wt, l3, l4, sT_app]
        exact e1
      · have wf : ((r.length : Int) < (m : Int)) = False := eq_false (by omega)
        obtain ⟨y3, e1⟩ := feed_loop (m := m) (a1 := a1) cs r true acc (updP h a (fo m r true)) (some (.val (.str (sT [s])))) (by omega) (by omega) updP_same
        refine ⟨y3, ?_⟩
        rw [if_neg w]
        rw [updP_updP] at e1
        dsimp! [forK_eq, l_nl, es, qf, e, sT_len, l2, wf]
        exact e1
theorem e_feed {m : Nat} {r : Ln} {c : Bool} {cs : Ln} (e : h a = some (fo m r c)) (g : cs.all sgB = true) (hl : cs.length ≤ 1000) (hr : r.length ≤ 1000) : F_Feeder_feed [.ref a, .str (sT cs)] h = .ok (.val (.tup ((fd m r c cs).1.map clP))) (updP h a (fo m (fd m r c cs).2.1 (fd m r c cs).2.2)) := by
  rw [u_Feeder_feed]; unfold R_Feeder_feed
  have e1 := f_tx (h := h) (l := cs) hl
  rw [g] at e1
  obtain ⟨y3, e2⟩ := feed_loop (m := m) (a := a) (a1 := some (.val (.str (sT cs)))) cs r c [] h none (by simp; omega) (by omega) e
  rw [List.map_nil, List.nil_append] at e2
  unfold chP at e2
  have fl := (fd_len m cs r c).1
  have l1 : (fd m r c cs).1.length ≤ 16777216 := by omega
  dsimp! [e1, sgP_sT, e2, List.length_map, l1]
theorem e_feed_bad {x : PV} (v : ∀ h, vwp h x = x) (e : F_is_text [x] h = .ok (.val (.bl false)) h) : F_Feeder_feed [.ref a, x] h = .ex lineX h := by
  rw [u_Feeder_feed]; unfold R_Feeder_feed
  dsimp! [v, e]
  rfl
theorem e_end0 {m : Nat} (e : h a = some (fo m [] false)) : F_Feeder_end [.ref a] h = .ok (.val .non) h := by
  rw [u_Feeder_end]; unfold R_Feeder_end
  dsimp! [e, lit_e]
theorem e_end1 {m : Nat} {r : Ln} {c : Bool} (hr : r ≠ []) (e : h a = some (fo m r c)) : F_Feeder_end [.ref a] h = .ok (.val (clP (r, c))) (updP h a (fo m [] false)) := by
  rw [u_Feeder_end]; unfold R_Feeder_end
  have q : (sT r = sT []) = False := by rw [sT_inj]; exact eq_false hr
  unfold clP
  dsimp! [e, lit_e, q, tf_1, tf_2, tf_3]
/-! the law's own -/
theorem ls_loop {a0 : Option SV} : ∀ (cs : List Nat) (here : Ln) (acc : List Ln) (x3 : Option SV), acc.length + here.length + cs.length ≤ 100000 →
    ∃ y3, forI (tN 3) B__law_split_0 (cs.map chP) [a0, some (.own (.lst (acc.map tP))), some (.val (.str (sT here))), x3] h = .nx [a0, some (.own (.lst ((acc ++ (sp here cs).1).map tP))), some (.val (.str (sT (sp here cs).2))), y3] h
  | [], here, acc, x3, _ => ⟨x3, by rw [List.map_nil, forR_nil, sp, List.append_nil]⟩
  | s :: cs, here, acc, x3, hk => by
    simp only [List.length_cons] at hk
    have l1 : acc.length < 16777216 := by omega
    have w : chP s = .str (sT [s]) := rfl
    have es : (sT [s] = sT [10]) = (s = 10) := by rw [sT_inj]; simp
    rw [List.map_cons, forR_cons, sp, w]
    by_cases q : s = 10
    · have qt := eq_true q
      obtain ⟨y3, e1⟩ := ls_loop (a0 := a0) cs [] (acc ++ [here]) (some (.val (.str (sT [s])))) (by simp; omega)
      refine ⟨y3, ?_⟩
      rw [if_pos q]
      rw [List.append_assoc, List.map_append (l₁ := acc) (l₂ := [here]), List.map_cons, List.map_nil] at e1
      dsimp! [forK_eq, l_nl, es, qt, List.length_map, l1, lit_e]
      exact e1
    · have qf := eq_false q
      have l3 : here.length ≤ 16777215 := by omega
      have l4 : here.length + 1 ≤ 16777216 := by omega
      obtain ⟨y3, e1⟩ := ls_loop (a0 := a0) cs (here ++ [s]) acc (some (.val (.str (sT [s])))) (by simp; omega)
      refine ⟨y3, ?_⟩
      rw [if_neg q]
      dsimp! [forK_eq, l_nl, es, qf, sT_len, l3, l4, sT_app]
      exact e1
theorem e_lsplit {cs : Ln} (hl : cs.length ≤ 1000) : F__law_split [.str (sT cs)] h = .ok (.val (.tup [.tup ((sp [] cs).1.map tP), .str (sT (sp [] cs).2)])) h := by
  rw [u__law_split]; unfold R__law_split
  obtain ⟨y3, e⟩ := ls_loop (h := h) (a0 := some (.val (.str (sT cs)))) cs [] [] none (by simp; omega)
  rw [List.map_nil, List.nil_append] at e
  unfold chP at e
  have sl := (sp_len cs []).1
  have l1 : (sp [] cs).1.length ≤ 16777216 := by omega
  dsimp! [lit_e, sgP_sT, e, List.length_map, l1]
end
end k05
-- parts: G_k05
set_option Elab.async false
set_option linter.all false
set_option maxRecDepth 100000
set_option maxHeartbeats 1000000
namespace k05
open PySem PySem.Spec PyProof.Rows L2 PP
local macro_rules | `(tactic| dsimp! [$xs:simpLemma,*]) => `(tactic| simp only [q0, q1, q2, q3, q4, q5, q6, q7, q8, q9, q10, q11, q12, q13, q14, q15, q16, q17, q18, q19, q20, q21, q22, q23, q24, q25, q26, q27, q28, q29, q30, q31, q32, q33, q34, q35, q36, q37, q38, q39, q40, q41, q42, q43, q44, q45, q46, q47, q48, q49, q50, q51, q52, q53, q54, q55, q56, q57, q58, q59, q60, q61, q62, q63, q64, q65, q66, q67, q68, q69, q70, q71, q72, q73, q74, q75, q76, q77, q78, q79, q80, q81, q82, q83, q84, q85, q86, q87, q88, q89, q90, q91, q92, q93, q94, q95, q96, q97, q98, q99, q100, q101, q102, q103, q104, q105, q106, q107, q108, q109, q110, q111, q112, q113, q114, q115, q116, q117, q118, q119, q120, q121, q122, q123, q124, q125, q126, q127, q128, q129, q130, q131, q132, q133, q134, q135, q136, q137, q138, q139, q140, q141, q142, q143, q144, q145, q146, q147, q148, q149, q150, q151, q152, q153, q154, q155, q156, q157, q158, q159, q160, q161, q162, q163, q164, q165, q166, q167, q168, q169, q170, q171, q172, q173, q174, q175, q176, q177, q178, q179, q180, q181, q182, q183, q184, q185, q186, q187, q188, q189, q190, q191, q192, q193, q194, q195, q196, q197, q198, q199, q200, q201, q202, q203, q204, q205, q206, q207, q208, q209, q210, q211, q212, q213, q214, q215, q216, q217, q218, q219, q220, q221, q222, q223, q224, q225, q226, q227, q228, q229, q230, q231, q232, q233, q234, q235, q236, q237, q238, q239, q240, q241, q242, q243, q244, q245, q246, q247, q248, q249, q250, q251, q252, q253, q254, q255, q256, q257, q258, q259, q260, q261, q262, q263, q264, q265, q266, q267, q268, q269, q270, q271, q272, q273, q274, q275, q276, q277, q278, q279, q280, q281, q282, q283, q284, q285, q286, q287, q288, q289, q290, q291, q292, q293, q294, q295, q296, q297, q298, q299, q300, q301, q302, q303, q304, q305, q306, q307, q308, q309, q310, q311, q312, q313, q314, q315, q316, q317, q318, q319, q320, q321, q322, q323, q324, q325, q326, q327, q328, q329, q330, q331, q332, q333, q334, q335, q336, q337, q338, q339, q340, q341, q342, q343, q344, q345, q346, q347, q348, q349, q350, q351, q352, q353, q354, q355, q356, q357, q358, q359, q360, q361, q362, q363, q364, q365, q366, q367, q368, q369, q370, q371, q372, q373, q374, q375, q376, q377, q378, q379, q380, q381, q382, q383, q384, q385, q386, q387, q388, q389, q390, q391, q392, q393, q394, q395, q396, q397, q398, q399, q400, q401, q402, q403, q404, q405, q406, q407, q408, q409, q410, q411, q412, q413, q414, q415, q416, q417, q418, q419, q420, q421, q422, q423, q424, q425, q426, q427, q428, q429, q430, q431, qsI, qlI, qcI, quI, qeI, qtI, qfI, qm6, qm7, cmulR, cmulL, cdivL, fitL, castL, cpowL, q452, q453, atL, atN1, ixL, q457, q458, q459, q460, q461, q462, q463, q464, q465, q466, q467, q468, q469, q470, q471, q472, q473, q474, q475, q476, q477, q478, q479, q480, q481, q482, q483, q484, q485, q486, q487, q488, List.getElem?_cons_zero, List.getElem?_cons_succ, List.set_cons_zero, List.set_cons_succ, List.length_cons, List.length_nil, List.map_cons, List.map_nil, List.append_nil, List.nil_append, List.cons_append, Option.map_some, Option.map_none, Option.bind_some, Option.bind_none, decide_eq_true_eq, Bool.not_eq_true, Bool.not_not, Bool.not_true, Bool.not_false, Bool.and_eq_true, Bool.or_eq_true, Bool.not_eq_true', decide_eq_false_iff_not, Bool.false_eq_true, if_true, if_false, ite_true, ite_false, ite_self, reduceIte, sizeLine_eq, decide_true, decide_false, Bool.true_and, Bool.and_true, Bool.false_and, Bool.and_false, Bool.true_or, Bool.or_true, Bool.false_or, Bool.or_false, true_and, and_true, false_and, and_false, true_or, or_true, false_or, or_false, not_true_eq_false, not_false_eq_true, Bool.if_true_left, Bool.if_true_right, Bool.if_false_left, Bool.if_false_right, Bool.decide_eq_true, Bool.decide_eq_false, bne_iff_ne, ne_eq, Bool.decide_and, Bool.decide_or, Nat.zero_add, wipe_nil, wipe_cons, back_nil, back_cons, backS_v, backS_o, backS_n, Int.toNat_natCast, Nat.reduceAdd, Nat.reduceSub, Nat.reduceMul, Nat.reduceLT, Nat.reduceLeDiff, Nat.reduceEqDiff, Nat.reducePow, Int.reduceAdd, Int.reduceSub, Int.reduceMul, Int.reduceNeg, Int.reduceDiv, Int.reduceMod, Int.reducePow, Int.reduceLT, Int.reduceLE, Int.reduceGT, Int.reduceGE, Int.reduceEq, Int.reduceNe, Int.reduceToNat, List.all_cons, List.all_nil, List.zip_cons_cons, List.zip_nil_left, Bool.and_eq_false_iff, Bool.or_eq_false_iff, Bool.not_eq_false, Int.ofNat_zero, Int.ofNat_one, Nat.reduceDiv, Nat.reduceMod, List.isEmpty_cons, List.isEmpty_nil, eq_self, rxt1, rxt2, rxt3, rxt4, o1, o2, o3, o4, o5, o6, o7, o8, o9, o10, o11, o12, o13, o14, o15, o16, o17, o18, o19, o20, o21, n1, n2, n3, n4, n5, n6, n7, n8, n9, n10, y1, y2, y3, y4, y5, y6, PP.upd_at, PP.upd_upd, zz1, zz2, zz3, zz4, zz5, zz6, zz7, zz8, zz9, zz10, zz11, zz12, dd1, dd2, dd3, dd4, dd5, dd6, dd7, dd8, dd9, dd10, dd11, dd12, dd13, dd14, dd15, dd16, tb_BadLine_BadLine, ti_ValueError_BadLine, cf_cut_Feeder, cf_most_Feeder, cf_rest_Feeder, pf_Feeder_most_0, lk_Feeder_feed_0, lk_Feeder_end_0, lk_Feeder_most_1, pf_Feeder_most_1, pf_Feeder_rest_1, lk_Feeder_feed_1, lk_Feeder_end_1, lk_Feeder_most_2, pf_Feeder_most_2, lk_Feeder_rest_2, pf_Feeder_rest_2, pf_Feeder_cut_2, lk_Feeder_feed_2, lk_Feeder_end_2, lk_Feeder_most_3, pf_Feeder_most_3, lk_Feeder_rest_3, pf_Feeder_rest_3, lk_Feeder_cut_3, pf_Feeder_cut_3, lk_Feeder_feed_3, lk_Feeder_end_3, B__law_split_0_eq, B_feed_0_eq, B_law_0_eq, C_law_1_eq, B_law_2_eq, $xs:simpLemma,*])
local macro_rules | `(tactic| dsimp! [$xs:simpLemma,*] at $h:ident) => `(tactic| simp only [q0, q1, q2, q3, q4, q5, q6, q7, q8, q9, q10, q11, q12, q13, q14, q15, q16, q17, q18, q19, q20, q21, q22, q23, q24, q25, q26, q27, q28, q29, q30, q31, q32, q33, q34, q35, q36, q37, q38, q39, q40, q41, q42, q43, q44, q45, q46, q47, q48, q49, q50, q51, q52, q53, q54, q55, q56, q57, q58, q59, q60, q61, q62, q63, q64, q65, q66, q67, q68, q69, q70, q71, q72, q73, q74, q75, q76, q77, q78, q79, q80, q81, q82, q83, q84, q85, q86, q87, q88, q89, q90, q91, q92, q93, q94, q95, q96, q97, q98, q99, q100, q101, q102, q103, q104, q105, q106, q107, q108, q109, q110, q111, q112, q113, q114, q115, q116, q117, q118, q119, q120, q121, q122, q123, q124, q125, q126, q127, q128, q129, q130, q131, q132, q133, q134, q135, q136, q137, q138, q139, q140, q141, q142, q143, q144, q145, q146, q147, q148, q149, q150, q151, q152, q153, q154, q155, q156, q157, q158, q159, q160, q161, q162, q163, q164, q165, q166, q167, q168, q169, q170, q171, q172, q173, q174, q175, q176, q177, q178, q179, q180, q181, q182, q183, q184, q185, q186, q187, q188, q189, q190, q191, q192, q193, q194, q195, q196, q197, q198, q199, q200, q201, q202, q203, q204, q205, q206, q207, q208, q209, q210, q211, q212, q213, q214, q215, q216, q217, q218, q219, q220, q221, q222, q223, q224, q225, q226, q227, q228, q229, q230, q231, q232, q233, q234, q235, q236, q237, q238, q239, q240, q241, q242, q243, q244, q245, q246, q247, q248, q249, q250, q251, q252, q253, q254, q255, q256, q257, q258, q259, q260, q261, q262, q263, q264, q265, q266, q267, q268, q269, q270, q271, q272, q273, q274, q275, q276, q277, q278, q279, q280, q281, q282, q283, q284, q285, q286, q287, q288, q289, q290, q291, q292, q293, q294, q295, q296, q297, q298, q299, q300, q301, q302, q303, q304, q305, q306, q307, q308, q309, q310, q311, q312, q313, q314, q315, q316, q317, q318, q319, q320, q321, q322, q323, q324, q325, q326, q327, q328, q329, q330, q331, q332, q333, q334, q335, q336, q337, q338, q339, q340, q341, q342, q343, q344, q345, q346, q347, q348, q349, q350, q351, q352, q353, q354, q355, q356, q357, q358, q359, q360, q361, q362, q363, q364, q365, q366, q367, q368, q369, q370, q371, q372, q373, q374, q375, q376, q377, q378, q379, q380, q381, q382, q383, q384, q385, q386, q387, q388, q389, q390, q391, q392, q393, q394, q395, q396, q397, q398, q399, q400, q401, q402, q403, q404, q405, q406, q407, q408, q409, q410, q411, q412, q413, q414, q415, q416, q417, q418, q419, q420, q421, q422, q423, q424, q425, q426, q427, q428, q429, q430, q431, qsI, qlI, qcI, quI, qeI, qtI, qfI, qm6, qm7, cmulR, cmulL, cdivL, fitL, castL, cpowL, q452, q453, atL, atN1, ixL, q457, q458, q459, q460, q461, q462, q463, q464, q465, q466, q467, q468, q469, q470, q471, q472, q473, q474, q475, q476, q477, q478, q479, q480, q481, q482, q483, q484, q485, q486, q487, q488, List.getElem?_cons_zero, List.getElem?_cons_succ, List.set_cons_zero, List.set_cons_succ, List.length_cons, List.length_nil, List.map_cons, List.map_nil, List.append_nil, List.nil_append, List.cons_append, Option.map_some, Option.map_none, Option.bind_some, Option.bind_none, decide_eq_true_eq, Bool.not_eq_true, Bool.not_not, Bool.not_true, Bool.not_false, Bool.and_eq_true, Bool.or_eq_true, Bool.not_eq_true', decide_eq_false_iff_not, Bool.false_eq_true, if_true, if_false, ite_true, ite_false, ite_self, reduceIte, sizeLine_eq, decide_true, decide_false, Bool.true_and, Bool.and_true, Bool.false_and, Bool.and_false, Bool.true_or, Bool.or_true, Bool.false_or, Bool.or_false, true_and, and_true, false_and, and_false, true_or, or_true, false_or, or_false, not_true_eq_false, not_false_eq_true, Bool.if_true_left, Bool.if_true_right, Bool.if_false_left, Bool.if_false_right, Bool.decide_eq_true, Bool.decide_eq_false, bne_iff_ne, ne_eq, Bool.decide_and, Bool.decide_or, Nat.zero_add, wipe_nil, wipe_cons, back_nil, back_cons, backS_v, backS_o, backS_n, Int.toNat_natCast, Nat.reduceAdd, Nat.reduceSub, Nat.reduceMul, Nat.reduceLT, Nat.reduceLeDiff, Nat.reduceEqDiff, Nat.reducePow, Int.reduceAdd, Int.reduceSub, Int.reduceMul, Int.reduceNeg, Int.reduceDiv, Int.reduceMod, Int.reducePow, Int.reduceLT, Int.reduceLE, Int.reduceGT, Int.reduceGE, Int.reduceEq, Int.reduceNe, Int.reduceToNat, List.all_cons, List.all_nil, List.zip_cons_cons, List.zip_nil_left, Bool.and_eq_false_iff, Bool.or_eq_false_iff, Bool.not_eq_false, Int.ofNat_zero, Int.ofNat_one, Nat.reduceDiv, Nat.reduceMod, List.isEmpty_cons, List.isEmpty_nil, eq_self, rxt1, rxt2, rxt3, rxt4, o1, o2, o3, o4, o5, o6, o7, o8, o9, o10, o11, o12, o13, o14, o15, o16, o17, o18, o19, o20, o21, n1, n2, n3, n4, n5, n6, n7, n8, n9, n10, y1, y2, y3, y4, y5, y6, PP.upd_at, PP.upd_upd, zz1, zz2, zz3, zz4, zz5, zz6, zz7, zz8, zz9, zz10, zz11, zz12, dd1, dd2, dd3, dd4, dd5, dd6, dd7, dd8, dd9, dd10, dd11, dd12, dd13, dd14, dd15, dd16, tb_BadLine_BadLine, ti_ValueError_BadLine, cf_cut_Feeder, cf_most_Feeder, cf_rest_Feeder, pf_Feeder_most_0, lk_Feeder_feed_0, lk_Feeder_end_0, lk_Feeder_most_1, pf_Feeder_most_1, pf_Feeder_rest_1, lk_Feeder_feed_1, lk_Feeder_end_1, lk_Feeder_most_2, pf_Feeder_most_2, lk_Feeder_rest_2, pf_Feeder_rest_2, pf_Feeder_cut_2, lk_Feeder_feed_2, lk_Feeder_end_2, lk_Feeder_most_3, pf_Feeder_most_3, lk_Feeder_rest_3, pf_Feeder_rest_3, lk_Feeder_cut_3, pf_Feeder_cut_3, lk_Feeder_feed_3, lk_Feeder_end_3, B__law_split_0_eq, B_feed_0_eq, B_law_0_eq, C_law_1_eq, B_law_2_eq, $xs:simpLemma,*] at $h:ident)
def sx : Ln := [97, 98, 32, 10, 92, 126, 10]
theorem l_sx : ("ab \n\\~\n" : Str) = sT sx := by decide
section
variable {h : PH} {p : Addr}
theorem e_line (d : DrH h p) : ∃ (cs : Ln) (h' : PH), F__law_line [.ref p, .int 30, .str (sT sx)] h = .ok (.val (.str (sT cs))) h' ∧ DrH h' p ∧ cs.length ≤ 29 ∧ cs.all sgB = true := by
  obtain ⟨v, o, e, d1, v0, v1⟩ := f_draw d (n := 30) (by omega) (by omega)
  generalize updP h p o = h1 at *
  obtain ⟨n, rfl⟩ : ∃ n : Nat, v = n := ⟨v.toNat, by omega⟩
  have lc : ∃ (cs : Ln) (h' : PH), lcI (tN 3) rYes (r2 gIx (rV 2) (rCall 2 F__law_draw [] (rCons (rV 0) (rCons (rB gLen (rCons (rV 2) rNil)) rNil)))) [3] (rangeP 0 n) [] [some (.val (.ref p)), some (.val (.int 30)), some (.val (.str (sT sx))), none] h1
    = .ok ((cs.map mk1).map PV.str) [some (.val (.ref p)), some (.val (.int 30)), some (.val (.str (sT sx))), none] h' ∧ DrH h' p ∧ cs.length = n ∧ ∀ c ∈ cs, c ∈ sx := by
    refine lc_ind (fun xs acc σ h => ∃ ts : Ln, acc = (ts.map mk1).map PV.str ∧ σ = [some (.val (.ref p)), some (.val (.int 30)), some (.val (.str (sT sx))), none] ∧ DrH h p ∧ ts.length + xs.length = n ∧ ∀ c ∈ ts, c ∈ sx)
      (fun r => ∃ (ts : Ln) (h' : PH), r = .ok ((ts.map mk1).map PV.str) _ h' ∧ DrH h' p ∧ ts.length = n ∧ ∀ c ∈ ts, c ∈ sx) ?_ ?_ _ _ _ _ ⟨[], rfl, rfl, d1, by simp [range_len], by simp⟩
    · rintro acc σ h ⟨ls, rfl, rfl, d, l, b⟩
      exact ⟨ls, h, rfl, d, by simpa using l, b⟩
    · rintro x xs acc σ h k ⟨ls, rfl, rfl, d, l, b⟩ next
      obtain ⟨w, o2, e2, d2, w0, w1⟩ := f_draw d (n := 7) (by omega) (by omega)
      obtain ⟨c, ec, mc⟩ := at_ex (xs := sx) w0 (by show w < 7; omega)
      have la : ls.length < 16777216 := by simp at l; omega
      have z1 : sx.length = 7 := rfl
      dsimp! [sT_len, z1, e2, sT_cps, ec, cKk_some, List.length_map, la]
      refine next (((ls.map mk1).map PV.str) ++ [.str ⟨#[c]⟩]) _ _ ⟨ls ++ [c], by simp [mk1], rfl, d2, by simp at l ⊢; omega, fun y hy => ?_⟩
      rcases List.mem_append.mp hy with q | q
      · exact b y q
      · simp at q; subst q; exact mc
  obtain ⟨cs, h', ec, d2, lc, mc⟩ := lc
  have jo := join_ok (cs := cs) (by omega)
  rw [List.length_map] at jo
  have j1 : Txt.join "" (cs.map mk1) = sT cs := join_1 cs
  have ft : Fit (n : Int) := by unfold Fit; omega
  refine ⟨cs, h', ?_, d2, by omega, ?_⟩
  · rw [u__law_line]; unfold R__law_line
    dsimp! [e, ft, ec, strL_map, List.length_map, jo, j1]
  · rw [List.all_eq_true]
    intro c hc
    have := mc c hc
    have k : ∀ c ∈ sx, sgB c = true := by decide
    exact k c this
/-! what is refused -/
theorem rXI_eq {tb : Tb} {x : PX} {σ : PSt} {h : PH} : rXI tb x σ h = og ((tb x.cls).map fun b => .val (.bl b)) σ h := (rfl)
theorem split_bad {x : PV} (v : ∀ h, vwp h x = x) (e : F_is_text [x] h = .ok (.val (.bl false)) h) : F_split_lines [x] h = .ex lineX h := by
  rw [u_split_lines]; unfold R_split_lines
  dsimp! [v, e]
  rfl
theorem tx_tab : F_is_text [.str "\t"] h = .ok (.val (.bl false)) h := by
  have e := f_tx (h := h) (l := [9]) (by simp)
  rw [show ("\t" : Str) = sT [9] by decide, e]; rfl
theorem ln_anl : F_is_line [.str "a\n"] h = .ok (.val (.bl false)) h := by
  have e := l_bad (h := h) (l := [97, 10]) (by simp) (by decide)
  rw [show ("a\n" : Str) = sT [97, 10] by decide, e]
theorem ln_nl : F_is_line [.str "\n"] h = .ok (.val (.bl false)) h := by
  have e := l_bad (h := h) (l := [10]) (by simp) (by decide)
  rw [show ("\n" : Str) = sT [10] by decide, e]
theorem look_n : F_look_at_lines [.non] h = .ex lineX h := by rw [u_look_at_lines]; unfold R_look_at_lines; dsimp! [q0]; rfl
theorem look_s : F_look_at_lines [.str "ab"] h = .ex lineX h := by rw [u_look_at_lines]; unfold R_look_at_lines; dsimp! [q0]; rfl
theorem look_l : F_look_at_lines [.lst [.str "a"]] h = .ex lineX h := by rw [u_look_at_lines]; unfold R_look_at_lines; dsimp! [q0]; rfl
theorem look_t : F_look_at_lines [.tup [.str "a\n"]] h = .ex lineX h := by
  have e := ln_anl (h := h)
  rw [u_look_at_lines]; unfold R_look_at_lines; dsimp! [lcR_cons, lcR_nil, lcK_some, e]; rfl
theorem look_i : F_look_at_lines [.tup [.int 1]] h = .ex lineX h := by
  rw [u_look_at_lines]; unfold R_look_at_lines; dsimp! [lcR_cons, lcR_nil, lcK_some, f_line_int]; rfl
theorem look_0 : F_look_at_lines [.tup []] h = .ok (.val .non) h := e_look (ls := []) ⟨by simp, by simp⟩
theorem join_bad {x y : PV} (v : ∀ h, vwp h x = x) (e : F_look_at_lines [x] h = .ex lineX h) : F_join_lines [x, y] h = .ex lineX h := by
  rw [u_join_lines]; unfold R_join_lines
  dsimp! [v, e]
theorem join_bad2 {x : PV} (v : ∀ h, vwp h x = x) (e : F_look_at_line [x] h = .ex lineX h) : F_join_lines [.tup [], x] h = .ex lineX h := by
  rw [u_join_lines]; unfold R_join_lines
  have e0 := look_0 (h := h)
  dsimp! [v, e0, e]
theorem longest_bad {x : PV} (v : ∀ h, vwp h x = x) (e : F_look_at_lines [x] h = .ex lineX h) : F_longest [x] h = .ex lineX h := by
  rw [u_longest]; unfold R_longest
  dsimp! [v, e, rXI_eq]
theorem ref_0 {x : PV} (v : ∀ h, vwp h x = x) (e : F_split_lines [x] h = .ex lineX h) : F__law_refused [.int 0, x] h = .ok (.val (.bl true)) h := by
  rw [u__law_refused]; unfold R__law_refused
  unfold lineX at e
  dsimp! [v, e, rXI_eq]
theorem ref_1 {x : PV} (v : ∀ h, vwp h x = x) (e : F_join_lines [x, .str ""] h = .ex lineX h) : F__law_refused [.int 1, x] h = .ok (.val (.bl true)) h := by
  rw [u__law_refused]; unfold R__law_refused
  unfold lineX at e
  dsimp! [v, e, rXI_eq]
theorem ref_2 {x : PV} (v : ∀ h, vwp h x = x) (e : F_join_lines [.tup [], x] h = .ex lineX h) : F__law_refused [.int 2, x] h = .ok (.val (.bl true)) h := by
  rw [u__law_refused]; unfold R__law_refused
  unfold lineX at e
  dsimp! [v, e, rXI_eq]
theorem ref_5 {x : PV} (v : ∀ h, vwp h x = x) (e : F_look_at_line [x] h = .ex lineX h) : F__law_refused [.int 5, x] h = .ok (.val (.bl true)) h := by
  rw [u__law_refused]; unfold R__law_refused
  unfold lineX at e
  dsimp! [v, e, rXI_eq]
theorem ref_6 {x : PV} (v : ∀ h, vwp h x = x) (e : F_longest [x] h = .ex lineX h) : F__law_refused [.int 6, x] h = .ok (.val (.bl true)) h := by
  rw [u__law_refused]; unfold R__law_refused
  unfold lineX at e
  dsimp! [v, e, rXI_eq]
theorem ref_3 {x : PV} (v : ∀ h, vwp h x = x) (e : ∀ a h, F_Feeder___init__ [.ref a, x] (updP h a (.ins "Feeder" [])) = .ex lineX (updP h a (.ins "Feeder" []))) : F__law_refused [.int 3, x] h = .new h fun a => .ok (.val (.bl true)) (updP h a (.ins "Feeder" [])) := by
  rw [u__law_refused]; unfold R__law_refused
  unfold lineX at e
  dsimp! [v, e, rXI_eq]
theorem ref_4 {x : PV} (v : ∀ h, vwp h x = x) (e : ∀ a h, F_Feeder_feed [.ref a, x] h = .ex lineX h) : F__law_refused [.int 4, x] h = .new h fun a => .ok (.val (.bl true)) (updP h a (fo 3 [] false)) := by
  rw [u__law_refused]; unfold R__law_refused
  have i : ∀ a h, F_Feeder___init__ [.ref a, .int 3] (updP h a (.ins "Feeder" [])) = .ok (.val .non) (updP h a (fo 3 [] false)) := fun a h => e_init (m := 3) (by omega)
  unfold lineX at e
  dsimp! [v, i, e, rXI_eq]
end
end k05
-- parts: G_k05
set_option Elab.async false
set_option linter.all false
set_option maxRecDepth 100000
set_option maxHeartbeats 1000000
namespace k05
open PySem PySem.Spec PyProof.Rows L2 PP
local macro_rules | `(tactic| dsimp! [$xs:simpLemma,*]) => `(tactic| simp only [q0, q1, q2, q3, q4, q5, q6, q7, q8, q9, q10, q11, q12, q13, q14, q15, q16, q17, q18, q19, q20, q21, q22, q23, q24, q25, q26, q27, q28, q29, q30, q31, q32, q33, q34, q35, q36, q37, q38, q39, q40, q41, q42, q43, q44, q45, q46, q47, q48, q49, q50, q51, q52, q53, q54, q55, q56, q57, q58, q59, q60, q61, q62, q63, q64, q65, q66, q67, q68, q69, q70, q71, q72, q73, q74, q75, q76, q77, q78, q79, q80, q81, q82, q83, q84, q85, q86, q87, q88, q89, q90, q91, q92, q93, q94, q95, q96, q97, q98, q99, q100, q101, q102, q103, q104, q105, q106, q107, q108, q109, q110, q111, q112, q113, q114, q115, q116, q117, q118, q119, q120, q121, q122, q123, q124, q125, q126, q127, q128, q129, q130, q131, q132, q133, q134, q135, q136, q137, q138, q139, q140, q141, q142, q143, q144, q145, q146, q147, q148, q149, q150, q151, q152, q153, q154, q155, q156, q157, q158, q159, q160, q161, q162, q163, q164, q165, q166, q167, q168, q169, q170, q171, q172, q173, q174, q175, q176, q177, q178, q179, q180, q181, q182, q183, q184, q185, q186, q187, q188, q189, q190, q191, q192, q193, q194, q195, q196, q197, q198, q199, q200, q201, q202, q203, q204, q205, q206, q207, q208, q209, q210, q211, q212, q213, q214, q215, q216, q217, q218, q219, q220, q221, q222, q223, q224, q225, q226, q227, q228, q229, q230, q231, q232, q233, q234, q235, q236, q237, q238, q239, q240, q241, q242, q243, q244, q245, q246, q247, q248, q249, q250, q251, q252, q253, q254, q255, q256, q257, q258, q259, q260, q261, q262, q263, q264, q265, q266, q267, q268, q269, q270, q271, q272, q273, q274, q275, q276, q277, q278, q279, q280, q281, q282, q283, q284, q285, q286, q287, q288, q289, q290, q291, q292, q293, q294, q295, q296, q297, q298, q299, q300, q301, q302, q303, q304, q305, q306, q307, q308, q309, q310, q311, q312, q313, q314, q315, q316, q317, q318, q319, q320, q321, q322, q323, q324, q325, q326, q327, q328, q329, q330, q331, q332, q333, q334, q335, q336, q337, q338, q339, q340, q341, q342, q343, q344, q345, q346, q347, q348, q349, q350, q351, q352, q353, q354, q355, q356, q357, q358, q359, q360, q361, q362, q363, q364, q365, q366, q367, q368, q369, q370, q371, q372, q373, q374, q375, q376, q377, q378, q379, q380, q381, q382, q383, q384, q385, q386, q387, q388, q389, q390, q391, q392, q393, q394, q395, q396, q397, q398, q399, q400, q401, q402, q403, q404, q405, q406, q407, q408, q409, q410, q411, q412, q413, q414, q415, q416, q417, q418, q419, q420, q421, q422, q423, q424, q425, q426, q427, q428, q429, q430, q431, qsI, qlI, qcI, quI, qeI, qtI, qfI, qm6, qm7, cmulR, cmulL, cdivL, fitL, castL, cpowL, q452, q453, atL, atN1, ixL, q457, q458, q459, q460, q461, q462, q463, q464, q465, q466, q467, q468, q469, q470, q471, q472, q473, q474, q475, q476, q477, q478, q479, q480, q481, q482, q483, q484, q485, q486, q487, q488, List.getElem?_cons_zero, List.getElem?_cons_succ, List.set_cons_zero, List.set_cons_succ, List.length_cons, List.length_nil, List.map_cons, List.map_nil, List.append_nil, List.nil_append, List.cons_append, Option.map_some, Option.map_none, Option.bind_some, Option.bind_none, decide_eq_true_eq, Bool.not_eq_true, Bool.not_not, Bool.not_true, Bool.not_false, Bool.and_eq_true, Bool.or_eq_true, Bool.not_eq_true', decide_eq_false_iff_not, Bool.false_eq_true, if_true, if_false, ite_true, ite_false, ite_self, reduceIte, sizeLine_eq, decide_true, decide_false, Bool.true_and, Bool.and_true, Bool.false_and, Bool.and_false, Bool.true_or, Bool.or_true, Bool.false_or, Bool.or_false, true_and, and_true, false_and, and_false, true_or, or_true, false_or, or_false, not_true_eq_false, not_false_eq_true, Bool.if_true_left, Bool.if_true_right, Bool.if_false_left, Bool.if_false_right, Bool.decide_eq_true, Bool.decide_eq_false, bne_iff_ne, ne_eq, Bool.decide_and, Bool.decide_or, Nat.zero_add, wipe_nil, wipe_cons, back_nil, back_cons, backS_v, backS_o, backS_n, Int.toNat_natCast, Nat.reduceAdd, Nat.reduceSub, Nat.reduceMul, Nat.reduceLT, Nat.reduceLeDiff, Nat.reduceEqDiff, Nat.reducePow, Int.reduceAdd, Int.reduceSub, Int.reduceMul, Int.reduceNeg, Int.reduceDiv, Int.reduceMod, Int.reducePow, Int.reduceLT, Int.reduceLE, Int.reduceGT, Int.reduceGE, Int.reduceEq, Int.reduceNe, Int.reduceToNat, List.all_cons, List.all_nil, List.zip_cons_cons, List.zip_nil_left, Bool.and_eq_false_iff, Bool.or_eq_false_iff, Bool.not_eq_false, Int.ofNat_zero, Int.ofNat_one, Nat.reduceDiv, Nat.reduceMod, List.isEmpty_cons, List.isEmpty_nil, eq_self, rxt1, rxt2, rxt3, rxt4, o1, o2, o3, o4, o5, o6, o7, o8, o9, o10, o11, o12, o13, o14, o15, o16, o17, o18, o19, o20, o21, n1, n2, n3, n4, n5, n6, n7, n8, n9, n10, y1, y2, y3, y4, y5, y6, PP.upd_at, PP.upd_upd, zz1, zz2, zz3, zz4, zz5, zz6, zz7, zz8, zz9, zz10, zz11, zz12, dd1, dd2, dd3, dd4, dd5, dd6, dd7, dd8, dd9, dd10, dd11, dd12, dd13, dd14, dd15, dd16, tb_BadLine_BadLine, ti_ValueError_BadLine, cf_cut_Feeder, cf_most_Feeder, cf_rest_Feeder, pf_Feeder_most_0, lk_Feeder_feed_0, lk_Feeder_end_0, lk_Feeder_most_1, pf_Feeder_most_1, pf_Feeder_rest_1, lk_Feeder_feed_1, lk_Feeder_end_1, lk_Feeder_most_2, pf_Feeder_most_2, lk_Feeder_rest_2, pf_Feeder_rest_2, pf_Feeder_cut_2, lk_Feeder_feed_2, lk_Feeder_end_2, lk_Feeder_most_3, pf_Feeder_most_3, lk_Feeder_rest_3, pf_Feeder_rest_3, lk_Feeder_cut_3, pf_Feeder_cut_3, lk_Feeder_feed_3, lk_Feeder_end_3, B__law_split_0_eq, B_feed_0_eq, B_law_0_eq, C_law_1_eq, B_law_2_eq, $xs:simpLemma,*])
local macro_rules | `(tactic| dsimp! [$xs:simpLemma,*] at $h:ident) => `(tactic| simp only [q0, q1, q2, q3, q4, q5, q6, q7, q8, q9, q10, q11, q12, q13, q14, q15, q16, q17, q18, q19, q20, q21, q22, q23, q24, q25, q26, q27, q28, q29, q30, q31, q32, q33, q34, q35, q36, q37, q38, q39, q40, q41, q42, q43, q44, q45, q46, q47, q48, q49, q50, q51, q52, q53, q54, q55, q56, q57, q58, q59, q60, q61, q62, q63, q64, q65, q66, q67, q68, q69, q70, q71, q72, q73, q74, q75, q76, q77, q78, q79, q80, q81, q82, q83, q84, q85, q86, q87, q88, q89, q90, q91, q92, q93, q94, q95, q96, q97, q98, q99, q100, q101, q102, q103, q104, q105, q106, q107, q108, q109, q110, q111, q112, q113, q114, q115, q116, q117, q118, q119, q120, q121, q122, q123, q124, q125, q126, q127, q128, q129, q130, q131, q132, q133, q134, q135, q136, q137, q138, q139, q140, q141, q142, q143, q144, q145, q146, q147, q148, q149, q150, q151, q152, q153, q154, q155, q156, q157, q158, q159, q160, q161, q162, q163, q164, q165, q166, q167, q168, q169, q170, q171, q172, q173, q174, q175, q176, q177, q178, q179, q180, q181, q182, q183, q184, q185, q186, q187, q188, q189, q190, q191, q192, q193, q194, q195, q196, q197, q198, q199, q200, q201, q202, q203, q204, q205, q206, q207, q208, q209, q210, q211, q212, q213, q214, q215, q216, q217, q218, q219, q220, q221, q222, q223, q224, q225, q226, q227, q228, q229, q230, q231, q232, q233, q234, q235, q236, q237, q238, q239, q240, q241, q242, q243, q244, q245, q246, q247, q248, q249, q250, q251, q252, q253, q254, q255, q256, q257, q258, q259, q260, q261, q262, q263, q264, q265, q266, q267, q268, q269, q270, q271, q272, q273, q274, q275, q276, q277, q278, q279, q280, q281, q282, q283, q284, q285, q286, q287, q288, q289, q290, q291, q292, q293, q294, q295, q296, q297, q298, q299, q300, q301, q302, q303, q304, q305, q306, q307, q308, q309, q310, q311, q312, q313, q314, q315, q316, q317, q318, q319, q320, q321, q322, q323, q324, q325, q326, q327, q328, q329, q330, q331, q332, q333, q334, q335, q336, q337, q338, q339, q340, q341, q342, q343, q344, q345, q346, q347, q348, q349, q350, q351, q352, q353, q354, q355, q356, q357, q358, q359, q360, q361, q362, q363, q364, q365, q366, q367, q368, q369, q370, q371, q372, q373, q374, q375, q376, q377, q378, q379, q380, q381, q382, q383, q384, q385, q386, q387, q388, q389, q390, q391, q392, q393, q394, q395, q396, q397, q398, q399, q400, q401, q402, q403, q404, q405, q406, q407, q408, q409, q410, q411, q412, q413, q414, q415, q416, q417, q418, q419, q420, q421, q422, q423, q424, q425, q426, q427, q428, q429, q430, q431, qsI, qlI, qcI, quI, qeI, qtI, qfI, qm6, qm7, cmulR, cmulL, cdivL, fitL, castL, cpowL, q452, q453, atL, atN1, ixL, q457, q458, q459, q460, q461, q462, q463, q464, q465, q466, q467, q468, q469, q470, q471, q472, q473, q474, q475, q476, q477, q478, q479, q480, q481, q482, q483, q484, q485, q486, q487, q488, List.getElem?_cons_zero, List.getElem?_cons_succ, List.set_cons_zero, List.set_cons_succ, List.length_cons, List.length_nil, List.map_cons, List.map_nil, List.append_nil, List.nil_append, List.cons_append, Option.map_some, Option.map_none, Option.bind_some, Option.bind_none, decide_eq_true_eq, Bool.not_eq_true, Bool.not_not, Bool.not_true, Bool.not_false, Bool.and_eq_true, Bool.or_eq_true, Bool.not_eq_true', decide_eq_false_iff_not, Bool.false_eq_true, if_true, if_false, ite_true, ite_false, ite_self, reduceIte, sizeLine_eq, decide_true, decide_false, Bool.true_and, Bool.and_true, Bool.false_and, Bool.and_false, Bool.true_or, Bool.or_true, Bool.false_or, Bool.or_false, true_and, and_true, false_and, and_false, true_or, or_true, false_or, or_false, not_true_eq_false, not_false_eq_true, Bool.if_true_left, Bool.if_true_right, Bool.if_false_left, Bool.if_false_right, Bool.decide_eq_true, Bool.decide_eq_false, bne_iff_ne, ne_eq, Bool.decide_and, Bool.decide_or, Nat.zero_add, wipe_nil, wipe_cons, back_nil, back_cons, backS_v, backS_o, backS_n, Int.toNat_natCast, Nat.reduceAdd, Nat.reduceSub, Nat.reduceMul, Nat.reduceLT, Nat.reduceLeDiff, Nat.reduceEqDiff, Nat.reducePow, Int.reduceAdd, Int.reduceSub, Int.reduceMul, Int.reduceNeg, Int.reduceDiv, Int.reduceMod, Int.reducePow, Int.reduceLT, Int.reduceLE, Int.reduceGT, Int.reduceGE, Int.reduceEq, Int.reduceNe, Int.reduceToNat, List.all_cons, List.all_nil, List.zip_cons_cons, List.zip_nil_left, Bool.and_eq_false_iff, Bool.or_eq_false_iff, Bool.not_eq_false, Int.ofNat_zero, Int.ofNat_one, Nat.reduceDiv, Nat.reduceMod, List.isEmpty_cons, List.isEmpty_nil, eq_self, rxt1, rxt2, rxt3, rxt4, o1, o2, o3, o4, o5, o6, o7, o8, o9, o10, o11, o12, o13, o14, o15, o16, o17, o18, o19, o20, o21, n1, n2, n3, n4, n5, n6, n7, n8, n9, n10, y1, y2, y3, y4, y5, y6, PP.upd_at, PP.upd_upd, zz1, zz2, zz3, zz4, zz5, zz6, zz7, zz8, zz9, zz10, zz11, zz12, dd1, dd2, dd3, dd4, dd5, dd6, dd7, dd8, dd9, dd10, dd11, dd12, dd13, dd14, dd15, dd16, tb_BadLine_BadLine, ti_ValueError_BadLine, cf_cut_Feeder, cf_most_Feeder, cf_rest_Feeder, pf_Feeder_most_0, lk_Feeder_feed_0, lk_Feeder_end_0, lk_Feeder_most_1, pf_Feeder_most_1, pf_Feeder_rest_1, lk_Feeder_feed_1, lk_Feeder_end_1, lk_Feeder_most_2, pf_Feeder_most_2, lk_Feeder_rest_2, pf_Feeder_rest_2, pf_Feeder_cut_2, lk_Feeder_feed_2, lk_Feeder_end_2, lk_Feeder_most_3, pf_Feeder_most_3, lk_Feeder_rest_3, pf_Feeder_rest_3, lk_Feeder_cut_3, pf_Feeder_cut_3, lk_Feeder_feed_3, lk_Feeder_end_3, B__law_split_0_eq, B_feed_0_eq, B_law_0_eq, C_law_1_eq, B_law_2_eq, $xs:simpLemma,*] at $h:ident)
theorem rep_one {y : PV} {m : Nat} : repP [y] (m : Nat) = List.replicate m y := by
  unfold repP
  rw [show ((m : Nat) : Int).toNat = m by omega]
  induction m with
  | zero => rfl
  | succ k ih => rw [List.replicate_succ, List.flatten_cons, ih, List.replicate_succ]; rfl
theorem dl_t : ∀ {n : Nat} {ws : List Ln}, dataL (n + 1) (ws.map tP) = True
  | _, [] => rfl
  | n, w :: ws => by rw [List.map_cons, dl_cons, dl_t (n := n) (ws := ws)]; simp only [and_true]; exact dp_str
theorem dp_cl {n : Nat} {x : Cl} : dataP (n + 2) (clP x) = True := by
  unfold clP
  rw [dp_tup, dl_cons, dl_cons, dl_nil, dp_str, dp_bl]
  simp
theorem dl_cl : ∀ {n : Nat} {ws : List Cl}, dataL (n + 2) (ws.map clP) = True
  | _, [] => rfl
  | n, w :: ws => by rw [List.map_cons, dl_cons, dl_cl (n := n) (ws := ws), dp_cl]; simp only [and_true]
theorem dl_b : ∀ {n : Nat} {ws : List Bool}, dataL (n + 1) (ws.map .bl) = True
  | _, [] => rfl
  | n, w :: ws => by rw [List.map_cons, dl_cons, dl_b (n := n) (ws := ws)]; simp only [and_true]; exact dp_bl
section
variable {b0 b2 b3 b4 b5 b6 b7 b11 b12 b13 b14 b15 b16 : Option SV} {p a : Addr}
theorem feed_wh {cs : Ln} {m : Nat} {h0 : PH} (g : cs.all sgB = true) (hl : cs.length ≤ 29) (pa : p ≠ a) (d0 : DrH h0 p) (e0 : h0 a = some (fo m [] false)) : ∃ y10 y11 h', mWh C_law_1 B_law_0 [b0, some (.val (.ref p)), b2, some (.val (.str (sT cs))), b4, b5, b6, b7, some (.val (.ref a)), some (.own (.lst [])), some (.val (.int 0)), b11, b12, b13, b14, b15, b16] h0
    = .nx [b0, some (.val (.ref p)), b2, some (.val (.str (sT cs))), b4, b5, b6, b7, some (.val (.ref a)), some (.own (.lst ((fd m [] false cs).1.map clP))), y10, y11, b12, b13, b14, b15, b16] h' ∧ DrH h' p ∧ h' a = some (fo m (fd m [] false cs).2.1 (fd m [] false cs).2.2) := by
  refine wh_ind (m := cs.length) (fun k σ g => ∃ (at' : Nat) (x11 : Option SV), σ = [b0, some (.val (.ref p)), b2, some (.val (.str (sT cs))), b4, b5, b6, b7, some (.val (.ref a)), some (.own (.lst ((fd m [] false (cs.take at')).1.map clP))), some (.val (.int (at' : Nat))), x11, b12, b13, b14, b15, b16] ∧ g a = some (fo m (fd m [] false (cs.take at')).2.1 (fd m [] false (cs.take at')).2.2) ∧ DrH g p ∧ k = cs.length - at')
    (fun r => ∃ y10 y11 h', r = .nx [b0, some (.val (.ref p)), b2, some (.val (.str (sT cs))), b4, b5, b6, b7, some (.val (.ref a)), some (.own (.lst ((fd m [] false cs).1.map clP))), y10, y11, b12, b13, b14, b15, b16] h' ∧ DrH h' p ∧ h' a = some (fo m (fd m [] false cs).2.1 (fd m [] false cs).2.2)) ⟨0, b11, rfl, e0, d0, by simp⟩ (by omega) ?_
  rintro k σ h K ⟨at', x11, rfl, ea, d, rfl⟩ next
  have z1 : cs.length ≤ 16777216 := by omega
  by_cases c : at' < cs.length
  · have c1 : ((at' : Int) < (cs.length : Int)) = True := eq_true (by omega)
    obtain ⟨v, o, e1, d1, v0, v1⟩ := f_draw d (n := 6) (by omega) (by omega)
    have ea1 : updP h p o a = some (fo m (fd m [] false (cs.take at')).2.1 (fd m [] false (cs.take at')).2.2) := by
      rw [updP_ne (fun z => pa z.symm)]; exact ea
    generalize updP h p o = h1 at *
    obtain ⟨s, rfl⟩ : ∃ s : Nat, v = s := ⟨v.toNat, by omega⟩
    have cu : cutS (sT cs) (some (at' : Int)) (some ((at' + (1 + s) : Nat) : Int)) = sT ((cs.drop at').take (1 + s)) := by
      rw [cut_nn, Nat.add_sub_cancel_left]
    have tk : cs.take (at' + (1 + s)) = cs.take at' ++ (cs.drop at').take (1 + s) := by rw [List.take_add]
    have fa := fd_app m (cs.take at') ((cs.drop at').take (1 + s)) [] false
    rw [← tk] at fa
    obtain ⟨f1, f2⟩ := fd_len m (cs.take at') [] false
    have l1 : (cs.take at').length ≤ 29 := by simp; omega
    have l2 : ((cs.drop at').take (1 + s)).length ≤ 29 := by simp; omega
    obtain ⟨f3, f4⟩ := fd_len m ((cs.drop at').take (1 + s)) (fd m [] false (cs.take at')).2.1 (fd m [] false (cs.take at')).2.2
    have e2 := e_feed (cs := (cs.drop at').take (1 + s)) ea1 (by
      rw [List.all_eq_true] at g ⊢
      exact fun c hc => g c (List.mem_of_mem_drop (List.mem_of_mem_take hc))) (by omega) (by simp at f2; omega)
    have n1 : (at' : Int) + (1 + (s : Int)) = ((at' + (1 + s) : Nat) : Int) := by omega
    generalize fd m [] false (cs.take at') = A at *
    generalize fd m A.2.1 A.2.2 ((cs.drop at').take (1 + s)) = B at *
    have l3 : A.1.length + B.1.length ≤ 16777216 := by omega
    have l4 : B.1.length ≤ 16777216 := by omega
    have F := next (cs.length - (at' + (1 + s))) [b0, some (.val (.ref p)), b2, some (.val (.str (sT cs))), b4, b5, b6, b7, some (.val (.ref a)), some (.own (.lst (A.1.map clP ++ B.1.map clP))), some (.val (.int ((at' + (1 + s) : Nat) : Int))), some (.val (.int (1 + (s : Int)))), b12, b13, b14, b15, b16] (updP h1 a (fo m B.2.1 B.2.2)) (by omega) ⟨at' + (1 + s), _, by rw [fa, List.map_append], by rw [fa]; exact updP_same, by unfold DrH; rw [updP_ne pa]; exact d1, rfl⟩
    dsimp! [wKk_eq, sT_len, z1, c1, e1, ea1, cu, e2, List.length_map, l3, l4, n1]
    exact F
  · have c1 : ((at' : Int) < (cs.length : Int)) = False := eq_false (by omega)
    have tk : cs.take at' = cs := List.take_of_length_le (by omega)
    rw [tk] at ea ⊢
    dsimp! [wKk_eq, sT_len, z1, c1]
    exact ⟨_, _, _, rfl, d, ea⟩
end
end k05
-- parts: G_k05
set_option Elab.async false
set_option linter.all false
set_option maxRecDepth 100000
set_option maxHeartbeats 2000000
namespace k05
open PySem PySem.Spec PyProof.Rows L2 PP
local macro_rules | `(tactic| dsimp! [$xs:simpLemma,*]) => `(tactic| simp only [q0, q1, q2, q3, q4, q5, q6, q7, q8, q9, q10, q11, q12, q13, q14, q15, q16, q17, q18, q19, q20, q21, q22, q23, q24, q25, q26, q27, q28, q29, q30, q31, q32, q33, q34, q35, q36, q37, q38, q39, q40, q41, q42, q43, q44, q45, q46, q47, q48, q49, q50, q51, q52, q53, q54, q55, q56, q57, q58, q59, q60, q61, q62, q63, q64, q65, q66, q67, q68, q69, q70, q71, q72, q73, q74, q75, q76, q77, q78, q79, q80, q81, q82, q83, q84, q85, q86, q87, q88, q89, q90, q91, q92, q93, q94, q95, q96, q97, q98, q99, q100, q101, q102, q103, q104, q105, q106, q107, q108, q109, q110, q111, q112, q113, q114, q115, q116, q117, q118, q119, q120, q121, q122, q123, q124, q125, q126, q127, q128, q129, q130, q131, q132, q133, q134, q135, q136, q137, q138, q139, q140, q141, q142, q143, q144, q145, q146, q147, q148, q149, q150, q151, q152, q153, q154, q155, q156, q157, q158, q159, q160, q161, q162, q163, q164, q165, q166, q167, q168, q169, q170, q171, q172, q173, q174, q175, q176, q177, q178, q179, q180, q181, q182, q183, q184, q185, q186, q187, q188, q189, q190, q191, q192, q193, q194, q195, q196, q197, q198, q199, q200, q201, q202, q203, q204, q205, q206, q207, q208, q209, q210, q211, q212, q213, q214, q215, q216, q217, q218, q219, q220, q221, q222, q223, q224, q225, q226, q227, q228, q229, q230, q231, q232, q233, q234, q235, q236, q237, q238, q239, q240, q241, q242, q243, q244, q245, q246, q247, q248, q249, q250, q251, q252, q253, q254, q255, q256, q257, q258, q259, q260, q261, q262, q263, q264, q265, q266, q267, q268, q269, q270, q271, q272, q273, q274, q275, q276, q277, q278, q279, q280, q281, q282, q283, q284, q285, q286, q287, q288, q289, q290, q291, q292, q293, q294, q295, q296, q297, q298, q299, q300, q301, q302, q303, q304, q305, q306, q307, q308, q309, q310, q311, q312, q313, q314, q315, q316, q317, q318, q319, q320, q321, q322, q323, q324, q325, q326, q327, q328, q329, q330, q331, q332, q333, q334, q335, q336, q337, q338, q339, q340, q341, q342, q343, q344, q345, q346, q347, q348, q349, q350, q351, q352, q353, q354, q355, q356, q357, q358, q359, q360, q361, q362, q363, q364, q365, q366, q367, q368, q369, q370, q371, q372, q373, q374, q375, q376, q377, q378, q379, q380, q381, q382, q383, q384, q385, q386, q387, q388, q389, q390, q391, q392, q393, q394, q395, q396, q397, q398, q399, q400, q401, q402, q403, q404, q405, q406, q407, q408, q409, q410, q411, q412, q413, q414, q415, q416, q417, q418, q419, q420, q421, q422, q423, q424, q425, q426, q427, q428, q429, q430, q431, qsI, qlI, qcI, quI, qeI, qtI, qfI, qm6, qm7, cmulR, cmulL, cdivL, fitL, castL, cpowL, q452, q453, atL, atN1, ixL, q457, q458, q459, q460, q461, q462, q463, q464, q465, q466, q467, q468, q469, q470, q471, q472, q473, q474, q475, q476, q477, q478, q479, q480, q481, q482, q483, q484, q485, q486, q487, q488, List.getElem?_cons_zero, List.getElem?_cons_succ, List.set_cons_zero, List.set_cons_succ, List.length_cons, List.length_nil, List.map_cons, List.map_nil, List.append_nil, List.nil_append, List.cons_append, Option.map_some, Option.map_none, Option.bind_some, Option.bind_none, decide_eq_true_eq, Bool.not_eq_true, Bool.not_not, Bool.not_true, Bool.not_false, Bool.and_eq_true, Bool.or_eq_true, Bool.not_eq_true', decide_eq_false_iff_not, Bool.false_eq_true, if_true, if_false, ite_true, ite_false, ite_self, reduceIte, sizeLine_eq, decide_true, decide_false, Bool.true_and, Bool.and_true, Bool.false_and, Bool.and_false, Bool.true_or, Bool.or_true, Bool.false_or, Bool.or_false, true_and, and_true, false_and, and_false, true_or, or_true, false_or, or_false, not_true_eq_false, not_false_eq_true, Bool.if_true_left, Bool.if_true_right, Bool.if_false_left, Bool.if_false_right, Bool.decide_eq_true, Bool.decide_eq_false, bne_iff_ne, ne_eq, Bool.decide_and, Bool.decide_or, Nat.zero_add, wipe_nil, wipe_cons, back_nil, back_cons, backS_v, backS_o, backS_n, Int.toNat_natCast, Nat.reduceAdd, Nat.reduceSub, Nat.reduceMul, Nat.reduceLT, Nat.reduceLeDiff, Nat.reduceEqDiff, Nat.reducePow, Int.reduceAdd, Int.reduceSub, Int.reduceMul, Int.reduceNeg, Int.reduceDiv, Int.reduceMod, Int.reducePow, Int.reduceLT, Int.reduceLE, Int.reduceGT, Int.reduceGE, Int.reduceEq, Int.reduceNe, Int.reduceToNat, List.all_cons, List.all_nil, List.zip_cons_cons, List.zip_nil_left, Bool.and_eq_false_iff, Bool.or_eq_false_iff, Bool.not_eq_false, Int.ofNat_zero, Int.ofNat_one, Nat.reduceDiv, Nat.reduceMod, List.isEmpty_cons, List.isEmpty_nil, eq_self, rxt1, rxt2, rxt3, rxt4, o1, o2, o3, o4, o5, o6, o7, o8, o9, o10, o11, o12, o13, o14, o15, o16, o17, o18, o19, o20, o21, n1, n2, n3, n4, n5, n6, n7, n8, n9, n10, y1, y2, y3, y4, y5, y6, PP.upd_at, PP.upd_upd, zz1, zz2, zz3, zz4, zz5, zz6, zz7, zz8, zz9, zz10, zz11, zz12, dd1, dd2, dd3, dd4, dd5, dd6, dd7, dd8, dd9, dd10, dd11, dd12, dd13, dd14, dd15, dd16, tb_BadLine_BadLine, ti_ValueError_BadLine, cf_cut_Feeder, cf_most_Feeder, cf_rest_Feeder, pf_Feeder_most_0, lk_Feeder_feed_0, lk_Feeder_end_0, lk_Feeder_most_1, pf_Feeder_most_1, pf_Feeder_rest_1, lk_Feeder_feed_1, lk_Feeder_end_1, lk_Feeder_most_2, pf_Feeder_most_2, lk_Feeder_rest_2, pf_Feeder_rest_2, pf_Feeder_cut_2, lk_Feeder_feed_2, lk_Feeder_end_2, lk_Feeder_most_3, pf_Feeder_most_3, lk_Feeder_rest_3, pf_Feeder_rest_3, lk_Feeder_cut_3, pf_Feeder_cut_3, lk_Feeder_feed_3, lk_Feeder_end_3, B__law_split_0_eq, B_feed_0_eq, B_law_0_eq, C_law_1_eq, B_law_2_eq, $xs:simpLemma,*])
local macro_rules | `(tactic| dsimp! [$xs:simpLemma,*] at $h:ident) => `(tactic| simp only [q0, q1, q2, q3, q4, q5, q6, q7, q8, q9, q10, q11, q12, q13, q14, q15, q16, q17, q18, q19, q20, q21, q22, q23, q24, q25, q26, q27, q28, q29, q30, q31, q32, q33, q34, q35, q36, q37, q38, q39, q40, q41, q42, q43, q44, q45, q46, q47, q48, q49, q50, q51, q52, q53, q54, q55, q56, q57, q58, q59, q60, q61, q62, q63, q64, q65, q66, q67, q68, q69, q70, q71, q72, q73, q74, q75, q76, q77, q78, q79, q80, q81, q82, q83, q84, q85, q86, q87, q88, q89, q90, q91, q92, q93, q94, q95, q96, q97, q98, q99, q100, q101, q102, q103, q104, q105, q106, q107, q108, q109, q110, q111, q112, q113, q114, q115, q116, q117, q118, q119, q120, q121, q122, q123, q124, q125, q126, q127, q128, q129, q130, q131, q132, q133, q134, q135, q136, q137, q138, q139, q140, q141, q142, q143, q144, q145, q146, q147, q148, q149, q150, q151, q152, q153, q154, q155, q156, q157, q158, q159, q160, q161, q162, q163, q164, q165, q166, q167, q168, q169, q170, q171, q172, q173, q174, q175, q176, q177, q178, q179, q180, q181, q182, q183, q184, q185, q186, q187, q188, q189, q190, q191, q192, q193, q194, q195, q196, q197, q198, q199, q200, q201, q202, q203, q204, q205, q206, q207, q208, q209, q210, q211, q212, q213, q214, q215, q216, q217, q218, q219, q220, q221, q222, q223, q224, q225, q226, q227, q228, q229, q230, q231, q232, q233, q234, q235, q236, q237, q238, q239, q240, q241, q242, q243, q244, q245, q246, q247, q248, q249, q250, q251, q252, q253, q254, q255, q256, q257, q258, q259, q260, q261, q262, q263, q264, q265, q266, q267, q268, q269, q270, q271, q272, q273, q274, q275, q276, q277, q278, q279, q280, q281, q282, q283, q284, q285, q286, q287, q288, q289, q290, q291, q292, q293, q294, q295, q296, q297, q298, q299, q300, q301, q302, q303, q304, q305, q306, q307, q308, q309, q310, q311, q312, q313, q314, q315, q316, q317, q318, q319, q320, q321, q322, q323, q324, q325, q326, q327, q328, q329, q330, q331, q332, q333, q334, q335, q336, q337, q338, q339, q340, q341, q342, q343, q344, q345, q346, q347, q348, q349, q350, q351, q352, q353, q354, q355, q356, q357, q358, q359, q360, q361, q362, q363, q364, q365, q366, q367, q368, q369, q370, q371, q372, q373, q374, q375, q376, q377, q378, q379, q380, q381, q382, q383, q384, q385, q386, q387, q388, q389, q390, q391, q392, q393, q394, q395, q396, q397, q398, q399, q400, q401, q402, q403, q404, q405, q406, q407, q408, q409, q410, q411, q412, q413, q414, q415, q416, q417, q418, q419, q420, q421, q422, q423, q424, q425, q426, q427, q428, q429, q430, q431, qsI, qlI, qcI, quI, qeI, qtI, qfI, qm6, qm7, cmulR, cmulL, cdivL, fitL, castL, cpowL, q452, q453, atL, atN1, ixL, q457, q458, q459, q460, q461, q462, q463, q464, q465, q466, q467, q468, q469, q470, q471, q472, q473, q474, q475, q476, q477, q478, q479, q480, q481, q482, q483, q484, q485, q486, q487, q488, List.getElem?_cons_zero, List.getElem?_cons_succ, List.set_cons_zero, List.set_cons_succ, List.length_cons, List.length_nil, List.map_cons, List.map_nil, List.append_nil, List.nil_append, List.cons_append, Option.map_some, Option.map_none, Option.bind_some, Option.bind_none, decide_eq_true_eq, Bool.not_eq_true, Bool.not_not, Bool.not_true, Bool.not_false, Bool.and_eq_true, Bool.or_eq_true, Bool.not_eq_true', decide_eq_false_iff_not, Bool.false_eq_true, if_true, if_false, ite_true, ite_false, ite_self, reduceIte, sizeLine_eq, decide_true, decide_false, Bool.true_and, Bool.and_true, Bool.false_and, Bool.and_false, Bool.true_or, Bool.or_true, Bool.false_or, Bool.or_false, true_and, and_true, false_and, and_false, true_or, or_true, false_or, or_false, not_true_eq_false, not_false_eq_true, Bool.if_true_left, Bool.if_true_right, Bool.if_false_left, Bool.if_false_right, Bool.decide_eq_true, Bool.decide_eq_false, bne_iff_ne, ne_eq, Bool.decide_and, Bool.decide_or, Nat.zero_add, wipe_nil, wipe_cons, back_nil, back_cons, backS_v, backS_o, backS_n, Int.toNat_natCast, Nat.reduceAdd, Nat.reduceSub, Nat.reduceMul, Nat.reduceLT, Nat.reduceLeDiff, Nat.reduceEqDiff, Nat.reducePow, Int.reduceAdd, Int.reduceSub, Int.reduceMul, Int.reduceNeg, Int.reduceDiv, Int.reduceMod, Int.reducePow, Int.reduceLT, Int.reduceLE, Int.reduceGT, Int.reduceGE, Int.reduceEq, Int.reduceNe, Int.reduceToNat, List.all_cons, List.all_nil, List.zip_cons_cons, List.zip_nil_left, Bool.and_eq_false_iff, Bool.or_eq_false_iff, Bool.not_eq_false, Int.ofNat_zero, Int.ofNat_one, Nat.reduceDiv, Nat.reduceMod, List.isEmpty_cons, List.isEmpty_nil, eq_self, rxt1, rxt2, rxt3, rxt4, o1, o2, o3, o4, o5, o6, o7, o8, o9, o10, o11, o12, o13, o14, o15, o16, o17, o18, o19, o20, o21, n1, n2, n3, n4, n5, n6, n7, n8, n9, n10, y1, y2, y3, y4, y5, y6, PP.upd_at, PP.upd_upd, zz1, zz2, zz3, zz4, zz5, zz6, zz7, zz8, zz9, zz10, zz11, zz12, dd1, dd2, dd3, dd4, dd5, dd6, dd7, dd8, dd9, dd10, dd11, dd12, dd13, dd14, dd15, dd16, tb_BadLine_BadLine, ti_ValueError_BadLine, cf_cut_Feeder, cf_most_Feeder, cf_rest_Feeder, pf_Feeder_most_0, lk_Feeder_feed_0, lk_Feeder_end_0, lk_Feeder_most_1, pf_Feeder_most_1, pf_Feeder_rest_1, lk_Feeder_feed_1, lk_Feeder_end_1, lk_Feeder_most_2, pf_Feeder_most_2, lk_Feeder_rest_2, pf_Feeder_rest_2, pf_Feeder_cut_2, lk_Feeder_feed_2, lk_Feeder_end_2, lk_Feeder_most_3, pf_Feeder_most_3, lk_Feeder_rest_3, pf_Feeder_rest_3, lk_Feeder_cut_3, pf_Feeder_cut_3, lk_Feeder_feed_3, lk_Feeder_end_3, B__law_split_0_eq, B_feed_0_eq, B_law_0_eq, C_law_1_eq, B_law_2_eq, $xs:simpLemma,*] at $h:ident)
section
variable {b0 b1 b2 b3 b4 b5 b7 b8 b9 b10 b11 b12 b13 b14 b15 b16 : Option SV} {h : PH}
theorem len_lc {ls : List Ln} (g : Lks ls) : lcI (tN 6) rYes (rB gLen (rCons (rV 6) rNil)) [6] (ls.map tP) [] [b0, b1, b2, b3, b4, b5, none, b7, b8, b9, b10, b11, b12, b13, b14, b15, b16] h = .ok ((ls.map fun l => (l.length : Int)).map .int) [b0, b1, b2, b3, b4, b5, none, b7, b8, b9, b10, b11, b12, b13, b14, b15, b16] h :=
  lc_mapL tP (fun l => (l.length : Int)) PV.int ls (fun l hl => ⟨[b0, b1, b2, b3, b4, b5, some (.val (tP l)), b7, b8, b9, b10, b11, b12, b13, b14, b15, b16], by
    have l1 : l.length ≤ 16777216 := by have := (g.2 l hl).1; omega
    dsimp! [sT_len, l1], rfl⟩) (by rw [sizeLine_eq]; have := g.1; omega)
theorem add_lc {ls : List Ln} (g : Lks ls) : lcI (tN 6) rYes (r2 gAdd (rV 6) (rC (.str "\n"))) [6] (ls.map tP) [] [b0, b1, b2, b3, b4, b5, none, b7, b8, b9, b10, b11, b12, b13, b14, b15, b16] h = .ok (((ls.map fun l => l ++ [10]).map sT).map .str) [b0, b1, b2, b3, b4, b5, none, b7, b8, b9, b10, b11, b12, b13, b14, b15, b16] h := by
  rw [show (ls.map fun l => l ++ [10]).map sT = ls.map fun l => sT (l ++ [10]) by rw [List.map_map]; rfl]
  exact lc_mapL tP (fun l => sT (l ++ [10])) PV.str ls (fun l hl => ⟨[b0, b1, b2, b3, b4, b5, some (.val (tP l)), b7, b8, b9, b10, b11, b12, b13, b14, b15, b16], by
    have k := (g.2 l hl).1
    have l1 : l.length ≤ 16777215 := by omega
    have l2 : l.length + 1 ≤ 16777216 := by omega
    have l3 : [10].length = 1 := rfl
    dsimp! [l_nl, sT_len, l1, l2, l3, sT_app], rfl⟩) (by rw [sizeLine_eq]; have := g.1; omega)
theorem cl_lc {ls : List Ln} {m : Nat} (g : Lks ls) : lcI (tN 6) rYes (rTup (rCons (rSl (rV 6) rO0 (rO1 (rV 7))) (rCons (r2 gGt (rB gLen (rCons (rV 6) rNil)) (rV 7)) rNil))) [6] (ls.map tP) [] [b0, b1, b2, b3, b4, b5, none, some (.val (.int (m : Nat))), b8, b9, b10, b11, b12, b13, b14, b15, b16] h = .ok ((ls.map (cl m)).map clP) [b0, b1, b2, b3, b4, b5, none, some (.val (.int (m : Nat))), b8, b9, b10, b11, b12, b13, b14, b15, b16] h :=
  lc_mapL tP (cl m) clP ls (fun l hl => ⟨[b0, b1, b2, b3, b4, b5, some (.val (tP l)), some (.val (.int (m : Nat))), b8, b9, b10, b11, b12, b13, b14, b15, b16], by
    have l1 : l.length ≤ 16777216 := by have := (g.2 l hl).1; omega
    have dq : ((m : Int) < (l.length : Int)) = (m < l.length) := by rw [eq_iff_iff]; omega
    unfold cl clP
    dsimp! [sT_len, l1, cut_0n, dq], rfl⟩) (by rw [sizeLine_eq]; have := g.1; omega)
theorem il_lc {ls : List Ln} (g : Lks ls) : lcI (tN 6) rYes (rCall 1 F_is_line [] (rCons (rV 6) rNil)) [6] (ls.map tP) [] [b0, b1, b2, b3, b4, b5, none, b7, b8, b9, b10, b11, b12, b13, b14, b15, b16] h = .ok ((ls.map fun _ => true).map .bl) [b0, b1, b2, b3, b4, b5, none, b7, b8, b9, b10, b11, b12, b13, b14, b15, b16] h :=
  lc_mapL tP (fun _ => true) PV.bl ls (fun l hl => ⟨[b0, b1, b2, b3, b4, b5, some (.val (tP l)), b7, b8, b9, b10, b11, b12, b13, b14, b15, b16], by
    have e := f_ln (h := h) (g.2 l hl)
    dsimp! [e], rfl⟩) (by rw [sizeLine_eq]; have := g.1; omega)
end
theorem e_start {ns : List Int} {h : PH} : (rCall 1 F__law_draws [] (rCons (rV 0) rNil)) [some (.val (.rdl (ns.map .int))), none, none, none, none, none, none, none, none, none, none, none, none, none, none, none, none] h = .ok (.own (.lst [.lst (ns.map .int), .int 0, .int 0, .int 1])) [some (.val (.rdl (ns.map .int))), none, none, none, none, none, none, none, none, none, none, none, none, none, none, none, none] h := by
  dsimp! [f_draws]
def St (ns : List Int) (p : Addr) (σ : PSt) : Prop := ∃ (a2 a3 a4 a5 a7 a8 a9 a10 a11 a12 a13 : Option SV), σ = [some (.val (.rdl (ns.map .int))), some (.val (.ref p)), a2, a3, a4, a5, none, a7, a8, a9, a10, a11, a12, a13, none, none, none]
/-- the rest of a turn behind the feeder's making -/
theorem fin_ok {σ : PSt} {h : PH} {ns : List Int} {p : Addr} (st : St ns p σ) : OK ((Ss.nx σ h).seq (mSeq (mSet 14 (rLst (rCons (rTup (rCons (rC (.int 0)) (rCons (rC .non) rNil))) (rCons (rTup (rCons (rC (.int 0)) (rCons (rC (.str "\t")) rNil))) (rCons (rTup (rCons (rC (.int 0)) (rCons (rC (.int 3)) rNil))) (rCons (rTup (rCons (rC (.int 1)) (rCons (rC .non) rNil))) (rCons (rTup (rCons (rC (.int 1)) (rCons (rLst (rCons (rC (.str "a")) rNil)) rNil))) (rCons (rTup (rCons (rC (.int 1)) (rCons (rTup (rCons (rC (.str "a\n")) rNil)) rNil))) (rCons (rTup (rCons (rC (.int 1)) (rCons (rTup (rCons (rC (.int 1)) rNil)) rNil))) (rCons (rTup (rCons (rC (.int 2)) (rCons (rC (.str "a\n")) rNil))) (rCons (rTup (rCons (rC (.int 2)) (rCons (rC .non) rNil))) (rCons (rTup (rCons (rC (.int 3)) (rCons (rC (.int 0)) rNil))) (rCons (rTup (rCons (rC (.int 3)) (rCons (rC .non) rNil))) (rCons (rTup (rCons (rC (.int 3)) (rCons (rC (.bl true)) rNil))) rNil))))))))))))))
    (mSeq (mSet 14 (r2 gAdd (rV 14) (rLst (rCons (rTup (rCons (rC (.int 4)) (rCons (rC .non) rNil))) (rCons (rTup (rCons (rC (.int 4)) (rCons (rC (.str "\t")) rNil))) (rCons (rTup (rCons (rC (.int 5)) (rCons (rC (.str "\n")) rNil))) (rCons (rTup (rCons (rC (.int 5)) (rCons (rC .non) rNil))) (rCons (rTup (rCons (rC (.int 6)) (rCons (rC (.str "ab")) rNil))) (rCons (rTup (rCons (rC (.int 6)) (rCons (rC .non) rNil))) rNil)))))))))
    (mSeq (mIf (rTb (r2 gGt (rB gLen (rCons (rLc (rSeqI (rV 14)) (tN 15) (rNotT (rTru (rCall 2 F__law_refused [] (rCons (r2 gIx (rV 15) (rC (.int 0))) (rCons (r2 gIx (rV 15) (rC (.int 1))) rNil))))) (rV 15) [15]) rNil)) (rC (.int 0)))) (mRet (rC (.bl false))) mNx)
    (mRet (r2 gEq (rLc (rSeqI (rTup (rCons (rC (.str "")) (rCons (rC (.str " ~")) (rCons (rC (.str "\t")) (rCons (rC .non) (rCons (rC (.int 1)) (rCons (rC (.str "a\nb")) rNil)))))))) (tN 16) rYes (rCall 1 F_is_line [] (rCons (rV 16) rNil)) [16]) (rLst (rCons (rC (.bl true)) (rCons (rC (.bl true)) (rCons (rC (.bl false)) (rCons (rC (.bl false)) (rCons (rC (.bl false)) (rCons (rC (.bl false)) rNil))))))))))))) := by
  obtain ⟨a2, a3, a4, a5, a7, a8, a9, a10, a11, a12, a13, rfl⟩ := st
  have v : ∀ (x : PV), (∀ h, vwp h x = x) → ∀ h, vwp h x = x := fun _ z => z
  have r01 : ∀ h, F__law_refused [.int 0, .non] h = .ok (.val (.bl true)) h := fun h => ref_0 (fun _ => rfl) (split_bad (fun _ => rfl) f_text_non)
  have r02 : ∀ h, F__law_refused [.int 0, .str "\t"] h = .ok (.val (.bl true)) h := fun h => ref_0 (fun _ => rfl) (split_bad (fun _ => rfl) tx_tab)
  have r03 : ∀ h, F__law_refused [.int 0, .int 3] h = .ok (.val (.bl true)) h := fun h => ref_0 (fun _ => rfl) (split_bad (fun _ => rfl) f_text_int)
  have r11 : ∀ h, F__law_refused [.int 1, .non] h = .ok (.val (.bl true)) h := fun h => ref_1 (fun _ => rfl) (join_bad (fun _ => rfl) look_n)
  have r12 : ∀ h, F__law_refused [.int 1, .lst [.str "a"]] h = .ok (.val (.bl true)) h := fun h => ref_1 (fun _ => rfl) (join_bad (fun _ => rfl) look_l)
  have r13 : ∀ h, F__law_refused [.int 1, .tup [.str "a\n"]] h = .ok (.val (.bl true)) h := fun h => ref_1 (fun _ => rfl) (join_bad (fun _ => rfl) look_t)
  have r14 : ∀ h, F__law_refused [.int 1, .tup [.int 1]] h = .ok (.val (.bl true)) h := fun h => ref_1 (fun _ => rfl) (join_bad (fun _ => rfl) look_i)
  have r21 : ∀ h, F__law_refused [.int 2, .str "a\n"] h = .ok (.val (.bl true)) h := fun h => ref_2 (fun _ => rfl) (join_bad2 (fun _ => rfl) (e_look1_bad (fun _ => rfl) ln_anl))
  have r22 : ∀ h, F__law_refused [.int 2, .non] h = .ok (.val (.bl true)) h := fun h => ref_2 (fun _ => rfl) (join_bad2 (fun _ => rfl) (e_look1_bad (fun _ => rfl) f_line_non))
  have r31 : ∀ h, F__law_refused [.int 3, .int 0] h = .new h fun a => .ok (.val (.bl true)) (updP h a (.ins "Feeder" [])) := fun h => ref_3 (fun _ => rfl) fun a h => e_init_0
  have r32 : ∀ h, F__law_refused [.int 3, .non] h = .new h fun a => .ok (.val (.bl true)) (updP h a (.ins "Feeder" [])) := fun h => ref_3 (fun _ => rfl) fun a h => e_init_n
  have r33 : ∀ h, F__law_refused [.int 3, .bl true] h = .new h fun a => .ok (.val (.bl true)) (updP h a (.ins "Feeder" [])) := fun h => ref_3 (fun _ => rfl) fun a h => e_init_t
  have r41 : ∀ h, F__law_refused [.int 4, .non] h = .new h fun a => .ok (.val (.bl true)) (updP h a (fo 3 [] false)) := fun h => ref_4 (fun _ => rfl) fun a h => e_feed_bad (fun _ => rfl) f_text_non
  have r42 : ∀ h, F__law_refused [.int 4, .str "\t"] h = .new h fun a => .ok (.val (.bl true)) (updP h a (fo 3 [] false)) := fun h => ref_4 (fun _ => rfl) fun a h => e_feed_bad (fun _ => rfl) tx_tab
  have r51 : ∀ h, F__law_refused [.int 5, .str "\n"] h = .ok (.val (.bl true)) h := fun h => ref_5 (fun _ => rfl) (e_look1_bad (fun _ => rfl) ln_nl)
  have r52 : ∀ h, F__law_refused [.int 5, .non] h = .ok (.val (.bl true)) h := fun h => ref_5 (fun _ => rfl) (e_look1_bad (fun _ => rfl) f_line_non)
  have r61 : ∀ h, F__law_refused [.int 6, .str "ab"] h = .ok (.val (.bl true)) h := fun h => ref_6 (fun _ => rfl) (longest_bad (fun _ => rfl) look_s)
  have r62 : ∀ h, F__law_refused [.int 6, .non] h = .ok (.val (.bl true)) h := fun h => ref_6 (fun _ => rfl) (longest_bad (fun _ => rfl) look_n)
  have l1 : ∀ h, F_is_line [.str ""] h = .ok (.val (.bl true)) h := fun h => by rw [lit_e]; exact f_ln ⟨by simp, by decide⟩
  have l2 : ∀ h, F_is_line [.str " ~"] h = .ok (.val (.bl true)) h := fun h => by rw [show (" ~" : Str) = sT [32, 126] by decide]; exact f_ln ⟨by simp, by decide⟩
  have l3 : ∀ h, F_is_line [.str "\t"] h = .ok (.val (.bl false)) h := fun h => by rw [show ("\t" : Str) = sT [9] by decide]; exact l_bad (by simp) (by decide)
  have l4 : ∀ h, F_is_line [.str "a\nb"] h = .ok (.val (.bl false)) h := fun h => by rw [show ("a\nb" : Str) = sT [97, 10, 98] by decide]; exact l_bad (by simp) (by decide)
  have q1 : pEqB (.lst [.bl true, .bl true, .bl false, .bl false, .bl false, .bl false]) (.lst [.bl true, .bl true, .bl false, .bl false, .bl false, .bl false]) = some true := by decide +kernel
  dsimp! [lcR_cons, lcR_nil, lcK_none, lcK_some, r01, r02, r03, r11, r12, r13, r14, r21, r22, r31]
  refine ok_new fun x1 n1 => ?_
  dsimp! [lcR_cons, lcR_nil, lcK_none, lcK_some, r32]
  refine ok_new fun x2 n2 => ?_
  dsimp! [lcR_cons, lcR_nil, lcK_none, lcK_some, r33]
  refine ok_new fun x3 n3 => ?_
  dsimp! [lcR_cons, lcR_nil, lcK_none, lcK_some, r41]
  refine ok_new fun x4 n4 => ?_
  dsimp! [lcR_cons, lcR_nil, lcK_none, lcK_some, r42]
  refine ok_new fun x5 n5 => ?_
  dsimp! [lcR_cons, lcR_nil, lcK_none, lcK_some, r51, r52, r61, r62, l1, l2, l3, l4, f_line_non, f_line_int, q1]
  exact ok_true
end k05
-- parts: G_k05
set_option Elab.async false
set_option linter.all false
set_option maxRecDepth 100000
set_option maxHeartbeats 2000000
namespace k05
open PySem PySem.Spec PyProof.Rows L2 PP
local macro_rules | `(tactic| dsimp! [$xs:simpLemma,*]) => `(tactic| simp only [q0, q1, q2, q3, q4, q5, q6, q7, q8, q9, q10, q11, q12, q13, q14, q15, q16, q17, q18, q19, q20, q21, q22, q23, q24, q25, q26, q27, q28, q29, q30, q31, q32, q33, q34, q35, q36, q37, q38, q39, q40, q41, q42, q43, q44, q45, q46, q47, q48, q49, q50, q51, q52, q53, q54, q55, q56, q57, q58, q59, q60, q61, q62, q63, q64, q65, q66, q67, q68, q69, q70, q71, q72, q73, q74, q75, q76, q77, q78, q79, q80, q81, q82, q83, q84, q85, q86, q87, q88, q89, q90, q91, q92, q93, q94, q95, q96, q97, q98, q99, q100, q101, q102, q103, q104, q105, q106, q107, q108, q109, q110, q111, q112, q113, q114, q115, q116, q117, q118, q119, q120, q121, q122, q123, q124, q125, q126, q127, q128, q129, q130, q131, q132, q133, q134, q135, q136, q137, q138, q139, q140, q141, q142, q143, q144, q145, q146, q147, q148, q149, q150, q151, q152, q153, q154, q155, q156, q157, q158, q159, q160, q161, q162, q163, q164, q165, q166, q167, q168, q169, q170, q171, q172, q173, q174, q175, q176, q177, q178, q179, q180, q181, q182, q183, q184, q185, q186, q187, q188, q189, q190, q191, q192, q193, q194, q195, q196, q197, q198, q199, q200, q201, q202, q203, q204, q205, q206, q207, q208, q209, q210, q211, q212, q213, q214, q215, q216, q217, q218, q219, q220, q221, q222, q223, q224, q225, q226, q227, q228, q229, q230, q231, q232, q233, q234, q235, q236, q237, q238, q239, q240, q241, q242, q243, q244, q245, q246, q247, q248, q249, q250, q251, q252, q253, q254, q255, q256, q257, q258, q259, q260, q261, q262, q263, q264, q265, q266, q267, q268, q269, q270, q271, q272, q273, q274, q275, q276, q277, q278, q279, q280, q281, q282, q283, q284, q285, q286, q287, q288, q289, q290, q291, q292, q293, q294, q295, q296, q297, q298, q299, q300, q301, q302, q303, q304, q305, q306, q307, q308, q309, q310, q311, q312, q313, q314, q315, q316, q317, q318, q319, q320, q321, q322, q323, q324, q325, q326, q327, q328, q329, q330, q331, q332, q333, q334, q335, q336, q337, q338, q339, q340, q341, q342, q343, q344, q345, q346, q347, q348, q349, q350, q351, q352, q353, q354, q355, q356, q357, q358, q359, q360, q361, q362, q363, q364, q365, q366, q367, q368, q369, q370, q371, q372, q373, q374, q375, q376, q377, q378, q379, q380, q381, q382, q383, q384, q385, q386, q387, q388, q389, q390, q391, q392, q393, q394, q395, q396, q397, q398, q399, q400, q401, q402, q403, q404, q405, q406, q407, q408, q409, q410, q411, q412, q413, q414, q415, q416, q417, q418, q419, q420, q421, q422, q423, q424, q425, q426, q427, q428, q429, q430, q431, qsI, qlI, qcI, quI, qeI, qtI, qfI, qm6, qm7, cmulR, cmulL, cdivL, fitL, castL, cpowL, q452, q453, atL, atN1, ixL, q457, q458, q459, q460, q461, q462, q463, q464, q465, q466, q467, q468, q469, q470, q471, q472, q473, q474, q475, q476, q477, q478, q479, q480, q481, q482, q483, q484, q485, q486, q487, q488, List.getElem?_cons_zero, List.getElem?_cons_succ, List.set_cons_zero, List.set_cons_succ, List.length_cons, List.length_nil, List.map_cons, List.map_nil, List.append_nil, List.nil_append, List.cons_append, Option.map_some, Option.map_none, Option.bind_some, Option.bind_none, decide_eq_true_eq, Bool.not_eq_true, Bool.not_not, Bool.not_true, Bool.not_false, Bool.and_eq_true, Bool.or_eq_true, Bool.not_eq_true', decide_eq_false_iff_not, Bool.false_eq_true, if_true, if_false, ite_true, ite_false, ite_self, reduceIte, sizeLine_eq, decide_true, decide_false, Bool.true_and, Bool.and_true, Bool.false_and, Bool.and_false, Bool.true_or, Bool.or_true, Bool.false_or, Bool.or_false, true_and, and_true, false_and, and_false, true_or, or_true, false_or, or_false, not_true_eq_false, not_false_eq_true, Bool.if_true_left, Bool.if_true_right, Bool.if_false_left, Bool.if_false_right, Bool.decide_eq_true, Bool.decide_eq_false, bne_iff_ne, ne_eq, Bool.decide_and, Bool.decide_or, Nat.zero_add, wipe_nil, wipe_cons, back_nil, back_cons, backS_v, backS_o, backS_n, Int.toNat_natCast, Nat.reduceAdd, Nat.reduceSub, Nat.reduceMul, Nat.reduceLT, Nat.reduceLeDiff, Nat.reduceEqDiff, Nat.reducePow, Int.reduceAdd, Int.reduceSub, Int.reduceMul, Int.reduceNeg, Int.reduceDiv, Int.reduceMod, Int.reducePow, Int.reduceLT, Int.reduceLE, Int.reduceGT, Int.reduceGE, Int.reduceEq, Int.reduceNe, Int.reduceToNat, List.all_cons, List.all_nil, List.zip_cons_cons, List.zip_nil_left, Bool.and_eq_false_iff, Bool.or_eq_false_iff, Bool.not_eq_false, Int.ofNat_zero, Int.ofNat_one, Nat.reduceDiv, Nat.reduceMod, List.isEmpty_cons, List.isEmpty_nil, eq_self, rxt1, rxt2, rxt3, rxt4, o1, o2, o3, o4, o5, o6, o7, o8, o9, o10, o11, o12, o13, o14, o15, o16, o17, o18, o19, o20, o21, n1, n2, n3, n4, n5, n6, n7, n8, n9, n10, y1, y2, y3, y4, y5, y6, PP.upd_at, PP.upd_upd, zz1, zz2, zz3, zz4, zz5, zz6, zz7, zz8, zz9, zz10, zz11, zz12, dd1, dd2, dd3, dd4, dd5, dd6, dd7, dd8, dd9, dd10, dd11, dd12, dd13, dd14, dd15, dd16, tb_BadLine_BadLine, ti_ValueError_BadLine, cf_cut_Feeder, cf_most_Feeder, cf_rest_Feeder, pf_Feeder_most_0, lk_Feeder_feed_0, lk_Feeder_end_0, lk_Feeder_most_1, pf_Feeder_most_1, pf_Feeder_rest_1, lk_Feeder_feed_1, lk_Feeder_end_1, lk_Feeder_most_2, pf_Feeder_most_2, lk_Feeder_rest_2, pf_Feeder_rest_2, pf_Feeder_cut_2, lk_Feeder_feed_2, lk_Feeder_end_2, lk_Feeder_most_3, pf_Feeder_most_3, lk_Feeder_rest_3, pf_Feeder_rest_3, lk_Feeder_cut_3, pf_Feeder_cut_3, lk_Feeder_feed_3, lk_Feeder_end_3, B__law_split_0_eq, B_feed_0_eq, B_law_0_eq, C_law_1_eq, B_law_2_eq, $xs:simpLemma,*])
local macro_rules | `(tactic| dsimp! [$xs:simpLemma,*] at $h:ident) => `(tactic| simp only [q0, q1, q2, q3, q4, q5, q6, q7, q8, q9, q10, q11, q12, q13, q14, q15, q16, q17, q18, q19, q20, q21, q22, q23, q24, q25, q26, q27, q28, q29, q30, q31, q32, q33, q34, q35, q36, q37, q38, q39, q40, q41, q42, q43, q44, q45, q46, q47, q48, q49, q50, q51, q52, q53, q54, q55, q56, q57, q58, q59, q60, q61, q62, q63, q64, q65, q66, q67, q68, q69, q70, q71, q72, q73, q74, q75, q76, q77, q78, q79, q80, q81, q82, q83, q84, q85, q86, q87, q88, q89, q90, q91, q92, q93, q94, q95, q96, q97, q98, q99, q100, q101, q102, q103, q104, q105, q106, q107, q108, q109, q110, q111, q112, q113, q114, q115, q116, q117, q118, q119, q120, q121, q122, q123, q124, q125, q126, q127, q128, q129, q130, q131, q132, q133, q134, q135, q136, q137, q138, q139, q140, q141, q142, q143, q144, q145, q146, q147, q148, q149, q150, q151, q152, q153, q154, q155, q156, q157, q158, q159, q160, q161, q162, q163, q164, q165, q166, q167, q168, q169, q170, q171, q172, q173, q174, q175, q176, q177, q178, q179, q180, q181, q182, q183, q184, q185, q186, q187, q188, q189, q190, q191, q192, q193, q194, q195, q196, q197, q198, q199, q200, q201, q202, q203, q204, q205, q206, q207, q208, q209, q210, q211, q212, q213, q214, q215, q216, q217, q218, q219, q220, q221, q222, q223, q224, q225, q226, q227, q228, q229, q230, q231, q232, q233, q234, q235, q236, q237, q238, q239, q240, q241, q242, q243, q244, q245, q246, q247, q248, q249, q250, q251, q252, q253, q254, q255, q256, q257, q258, q259, q260, q261, q262, q263, q264, q265, q266, q267, q268, q269, q270, q271, q272, q273, q274, q275, q276, q277, q278, q279, q280, q281, q282, q283, q284, q285, q286, q287, q288, q289, q290, q291, q292, q293, q294, q295, q296, q297, q298, q299, q300, q301, q302, q303, q304, q305, q306, q307, q308, q309, q310, q311, q312, q313, q314, q315, q316, q317, q318, q319, q320, q321, q322, q323, q324, q325, q326, q327, q328, q329, q330, q331, q332, q333, q334, q335, q336, q337, q338, q339, q340, q341, q342, q343, q344, q345, q346, q347, q348, q349, q350, q351, q352, q353, q354, q355, q356, q357, q358, q359, q360, q361, q362, q363, q364, q365, q366, q367, q368, q369, q370, q371, q372, q373, q374, q375, q376, q377, q378, q379, q380, q381, q382, q383, q384, q385, q386, q387, q388, q389, q390, q391, q392, q393, q394, q395, q396, q397, q398, q399, q400, q401, q402, q403, q404, q405, q406, q407, q408, q409, q410, q411, q412, q413, q414, q415, q416, q417, q418, q419, q420, q421, q422, q423, q424, q425, q426, q427, q428, q429, q430, q431, qsI, qlI, qcI, quI, qeI, qtI, qfI, qm6, qm7, cmulR, cmulL, cdivL, fitL, castL, cpowL, q452, q453, atL, atN1, ixL, q457, q458, q459, q460, q461, q462, q463, q464, q465, q466, q467, q468, q469, q470, q471, q472, q473, q474, q475, q476, q477, q478, q479, q480, q481, q482, q483, q484, q485, q486, q487, q488, List.getElem?_cons_zero, List.getElem?_cons_succ, List.set_cons_zero, List.set_cons_succ, List.length_cons, List.length_nil, List.map_cons, List.map_nil, List.append_nil, List.nil_append, List.cons_append, Option.map_some, Option.map_none, Option.bind_some, Option.bind_none, decide_eq_true_eq, Bool.not_eq_true, Bool.not_not, Bool.not_true, Bool.not_false, Bool.and_eq_true, Bool.or_eq_true, Bool.not_eq_true', decide_eq_false_iff_not, Bool.false_eq_true, if_true, if_false, ite_true, ite_false, ite_self, reduceIte, sizeLine_eq, decide_true, decide_false, Bool.true_and, Bool.and_true, Bool.false_and, Bool.and_false, Bool.true_or, Bool.or_true, Bool.false_or, Bool.or_false, true_and, and_true, false_and, and_false, true_or, or_true, false_or, or_false, not_true_eq_false, not_false_eq_true, Bool.if_true_left, Bool.if_true_right, Bool.if_false_left, Bool.if_false_right, Bool.decide_eq_true, Bool.decide_eq_false, bne_iff_ne, ne_eq, Bool.decide_and, Bool.decide_or, Nat.zero_add, wipe_nil, wipe_cons, back_nil, back_cons, backS_v, backS_o, backS_n, Int.toNat_natCast, Nat.reduceAdd, Nat.reduceSub, Nat.reduceMul, Nat.reduceLT, Nat.reduceLeDiff, Nat.reduceEqDiff, Nat.reducePow, Int.reduceAdd, Int.reduceSub, Int.reduceMul, Int.reduceNeg, Int.reduceDiv, Int.reduceMod, Int.reducePow, Int.reduceLT, Int.reduceLE, Int.reduceGT, Int.reduceGE, Int.reduceEq, Int.reduceNe, Int.reduceToNat, List.all_cons, List.all_nil, List.zip_cons_cons, List.zip_nil_left, Bool.and_eq_false_iff, Bool.or_eq_false_iff, Bool.not_eq_false, Int.ofNat_zero, Int.ofNat_one, Nat.reduceDiv, Nat.reduceMod, List.isEmpty_cons, List.isEmpty_nil, eq_self, rxt1, rxt2, rxt3, rxt4, o1, o2, o3, o4, o5, o6, o7, o8, o9, o10, o11, o12, o13, o14, o15, o16, o17, o18, o19, o20, o21, n1, n2, n3, n4, n5, n6, n7, n8, n9, n10, y1, y2, y3, y4, y5, y6, PP.upd_at, PP.upd_upd, zz1, zz2, zz3, zz4, zz5, zz6, zz7, zz8, zz9, zz10, zz11, zz12, dd1, dd2, dd3, dd4, dd5, dd6, dd7, dd8, dd9, dd10, dd11, dd12, dd13, dd14, dd15, dd16, tb_BadLine_BadLine, ti_ValueError_BadLine, cf_cut_Feeder, cf_most_Feeder, cf_rest_Feeder, pf_Feeder_most_0, lk_Feeder_feed_0, lk_Feeder_end_0, lk_Feeder_most_1, pf_Feeder_most_1, pf_Feeder_rest_1, lk_Feeder_feed_1, lk_Feeder_end_1, lk_Feeder_most_2, pf_Feeder_most_2, lk_Feeder_rest_2, pf_Feeder_rest_2, pf_Feeder_cut_2, lk_Feeder_feed_2, lk_Feeder_end_2, lk_Feeder_most_3, pf_Feeder_most_3, lk_Feeder_rest_3, pf_Feeder_rest_3, lk_Feeder_cut_3, pf_Feeder_cut_3, lk_Feeder_feed_3, lk_Feeder_end_3, B__law_split_0_eq, B_feed_0_eq, B_law_0_eq, C_law_1_eq, B_law_2_eq, $xs:simpLemma,*] at $h:ident)
theorem rep_tt {α : Type} {xs : List α} : repP [.bl true] (xs.length : Int) = (xs.map fun _ => true).map .bl := by
  rw [rep_one]
  induction xs with
  | nil => rfl
  | cons a b ih => rw [List.length_cons, List.replicate_succ, ih]; rfl
theorem law_ok (ns : List Int) (h : PH) : OK (R_law [some (.val (.rdl (ns.map .int))), none, none, none, none, none, none, none, none, none, none, none, none, none, none, none, none] h) := by
  unfold R_law
  have e0 := e_start (ns := ns) (h := h)
  generalize hB : S_law_3 = B
  refine ok_lay (B := B) e0 ?_ fun p hp => ?_
  · simp
  subst hB
  have dr := dr0 (h := h) (a := p) (ns := ns)
  generalize updP h p (.lst [.lst (ns.map .int), .int 0, .int 0, .int 1]) = h0 at dr
  rw [S_law_3_eq]
  dsimp! [q0]
  refine ok_for_s (fun xs σ h => St ns p σ ∧ DrH h p) ⟨⟨_, _, _, _, _, _, _, _, _, _, _, rfl⟩, dr⟩ ?_ ?_
  · rintro σ h1 ⟨st, dr⟩
    exact fin_ok st
  · rintro x xs σ h1 K ⟨⟨a2, a3, a4, a5, a7, a8, a9, a10, a11, a12, a13, rfl⟩, dr⟩ next
    obtain ⟨cs, h2, e1, d1, cl1, cg⟩ := e_line dr
    have e2 := e_lsplit (h := h2) (cs := cs) (by omega)
    have e3 := e_split (h := h2) cg (by omega)
    obtain ⟨g, gr⟩ := sp_ok cg (by omega)
    have sj := sp_jn cs []
    rw [List.nil_append] at sj
    have jl : (jn (sp [] cs).1).length ≤ 29 := by
      have := congrArg List.length sj
      rw [List.length_append] at this; omega
    have fs := fd_sp
    obtain ⟨s1, s2, s3⟩ := sp_len cs []
    obtain ⟨LS, hLS⟩ : ∃ x, x = (sp [] cs).1 := ⟨_, rfl⟩
    obtain ⟨RS, hRS⟩ : ∃ x, x = (sp [] cs).2 := ⟨_, rfl⟩
    have fs : ∀ m, fd m [] false cs = (LS.map (cl m), cl m RS) := fun m => by
      have := fd_sp m cs []
      rw [show cl m [] = ([], false) by unfold cl; simp] at this
      rw [hLS, hRS]; exact this
    rw [← hLS, ← hRS] at e2 e3 sj
    rw [← hLS] at g jl s1
    rw [← hRS] at s3 gr
    have e4 := e_join (h := h2) g gr (by omega)
    rw [sj] at e4
    obtain ⟨n, e5, hn⟩ := e_longest (h := h2) g
    have lc1 := fun b5 => len_lc (h := h2) (b0 := some (.val (.rdl (ns.map .int)))) (b1 := some (.val (.ref p))) (b2 := some (.val x)) (b3 := some (.val (.str (sT cs)))) (b4 := some (.val (.tup (LS.map tP)))) (b5 := b5) (b7 := a7) (b8 := a8) (b9 := a9) (b10 := a10) (b11 := a11) (b12 := a12) (b13 := a13) (b14 := none) (b15 := none) (b16 := none) g
    have il : intL (.int 0 :: (LS.map fun l => (l.length : Int)).map .int) = some (0 :: LS.map fun l => (l.length : Int)) := by
      have := intL_map (0 :: LS.map fun l => (l.length : Int))
      rw [List.map_cons] at this
      exact this
    have L1 : LS.length ≤ 16777215 := by omega
    have L2 : 1 + LS.length ≤ 16777216 := by omega
    have L3 : LS.length < 1048576 := by omega
    have q1 : F__law_same 40 [.lst [.tup [.tup (LS.map tP), .str (sT RS)], .str (sT cs), .int n], .lst [.tup [.tup (LS.map tP), .str (sT RS)], .str (sT cs), .int n]] h2 = .ok (.val (.bl true)) h2 := lsame_refl (by
      rw [dp_lst, dl_cons, dl_cons, dl_cons, dl_nil, dp_tup, dl_cons, dl_cons, dl_nil, dp_tup, dl_t, dp_str, dp_str, dp_int]
      simp only [List.length_cons, List.length_nil, List.length_map, and_true]
      omega)
    have e6 := e_join (h := h2) (ls := LS) (r := []) g ⟨by simp, by decide⟩ (by omega)
    rw [List.append_nil, ← lit_e] at e6
    have lc2 := fun b5 => add_lc (h := h2) (b0 := some (.val (.rdl (ns.map .int)))) (b1 := some (.val (.ref p))) (b2 := some (.val x)) (b3 := some (.val (.str (sT cs)))) (b4 := some (.val (.tup (LS.map tP)))) (b5 := b5) (b7 := a7) (b8 := a8) (b9 := a9) (b10 := a10) (b11 := a11) (b12 := a12) (b13 := a13) (b14 := none) (b15 := none) (b16 := none) g
    have jo := join_okT (ls := LS.map fun l => l ++ [10]) (by rw [jn_flat]; omega)
    have jt := join_T (LS.map fun l => l ++ [10])
    rw [jn_flat] at jt
    rw [List.length_map, List.length_map] at jo
    have q2 : F__law_same 40 [.str (sT (jn LS)), .str (sT (jn LS))] h2 = .ok (.val (.bl true)) h2 := lsame_refl (by rw [dp_str]; trivial)
    obtain ⟨v, o, e7, d2, v0, v1⟩ := f_draw d1 (n := 8) (by omega) (by omega)
    generalize updP h2 p o = h3 at *
    obtain ⟨m0, rfl⟩ : ∃ m : Nat, v = m := ⟨v.toNat, by omega⟩
    have m1 : (1 : Int) + (m0 : Int) = ((1 + m0 : Nat) : Int) := by omega
    have e8 : ∀ a h, F_Feeder___init__ [.ref a, .int ((1 + m0 : Nat) : Int)] (updP h a (.ins "Feeder" [])) = .ok (.val .non) (updP h a (fo (1 + m0) [] false)) := fun a h => e_init (by omega)
    dsimp! [fKk_eq, l_sx, e1, e2, e3, e4, e5, lc1, List.length_map, L1, L2, il, hn, q1, e6, lc2, strL_map, jo, jt, q2, e7, m1, e8]
    refine ok_new fun a na => ?_
    have pa : p ≠ a := fun z => by
      obtain ⟨_, _, _, _, e, _⟩ := d2
      rw [z, na] at e; cases e
    obtain ⟨m, hm⟩ : ∃ m, m = 1 + m0 := ⟨_, rfl⟩
    rw [← hm] at m1 e8 ⊢
    have mp : 1 ≤ m := by omega
    have d3 : DrH (updP h3 a (fo m [] false)) p := by unfold DrH; rw [updP_ne pa]; exact d2
    have ea : (updP h3 a (fo m [] false)) a = some (fo m [] false) := updP_same
    generalize updP h3 a (fo m [] false) = h4 at *
    obtain ⟨y10, y11, h5, ew, d4, ea5⟩ := feed_wh (b0 := some (.val (.rdl (ns.map .int)))) (b2 := some (.val x)) (b4 := some (.val (.tup (LS.map tP)))) (b5 := some (.val (.str (sT RS)))) (b6 := none) (b7 := some (.val (.int (m : Nat)))) (b11 := a11) (b12 := a12) (b13 := a13) (b14 := none) (b15 := none) (b16 := none) (m := m) cg cl1 pa d3 ea
    rw [fs] at ew ea5
    have lc3 := fun b8 b9 => cl_lc (h := h5) (b0 := some (.val (.rdl (ns.map .int)))) (b1 := some (.val (.ref p))) (b2 := some (.val x)) (b3 := some (.val (.str (sT cs)))) (b4 := some (.val (.tup (LS.map tP)))) (b5 := some (.val (.str (sT RS)))) (b8 := b8) (b9 := b9) (b10 := y10) (b11 := y11) (b12 := a12) (b13 := a13) (b14 := none) (b15 := none) (b16 := none) (m := m) g
    have upid : ∀ (h : PH) (o : PO), h a = some o → updP h a o = h := fun h o e => by
      funext b
      unfold updP
      split
      · rename_i q; rw [q]; exact e.symm
      · rfl
    have ef := e_feed (cs := []) ea5 rfl (by simp) (by have := s3; unfold cl; simp at this ⊢; omega)
    rw [show fd m (cl m RS).1 (cl m RS).2 [] = ([], cl m RS) from rfl, upid _ _ ea5, List.map_nil, ← lit_e] at ef
    have fx : fd m [] false [120, 10] = ([([120], false)], ([], false)) := by
      rw [fd, if_neg (by decide), if_pos (by simp; omega), fd, if_pos rfl, fd]; rfl
    have lx : ("x\n" : Str) = sT [120, 10] := by decide
    have lx1 : ("x" : Str) = sT [120] := by decide
    have M1 : (LS.map (cl m)).length ≤ 16777216 := by simp; omega
    have M2 : (LS.map (cl m)).length < 1048576 := by simp; omega
    have zr : RS.length ≤ 16777216 := by simp at s3; omega
    have dq : ((m : Int) < (RS.length : Int)) = (m < RS.length) := by rw [eq_iff_iff]; omega
    have kl : ∀ h, F_is_line [.str (sT cs)] h = .ok (.val (.bl (!decide (10 ∈ cs)))) h := fun h => by
      rw [f_line (sz_sT (by omega))]
      unfold lnB
      rw [tx_sT, cg, sT_cps]; rfl
    have k1 : -9223372036854775808 ≤ (LS.length : Int) := by omega
    have k2 : (LS.length : Int) < 9223372036854775808 := by omega
    have k3 : 1 * LS.length ≤ 16777216 := by omega
    have L4 : LS.length ≤ 16777216 := by omega
    have rp : repP [.bl true] (LS.length : Int) = (LS.map fun _ => true).map .bl := rep_tt
    have tail : ∀ (h6 : PH), DrH h6 p → h6 a = some (fo m [] false) → ∃ h7, F_Feeder_feed [.ref a, .str "x\n"] h6 = .ok (.val (.tup [.tup [.str "x", .bl false]])) h7 ∧ DrH h7 p := fun h6 d6 e6 => by
      have z := e_feed (cs := [120, 10]) e6 (by decide) (by simp) (by simp)
      rw [fx] at z
      exact ⟨updP h6 a (fo m [] false), by rw [lx, lx1]; exact z, by unfold DrH; rw [updP_ne pa]; exact d6⟩
    have q5 : ∀ h, F__law_same 40 [.tup [.tup [.str "x", .bl false]], .tup [.tup [.str "x", .bl false]]] h = .ok (.val (.bl true)) h := fun h => lsame_refl (by
      rw [dp_tup, dl_cons, dl_nil, dp_tup, dl_cons, dl_cons, dl_nil, dp_str, dp_bl]; simp)
    have q6 : ∀ h, F__law_same 40 [.lst ((LS.map fun _ => true).map .bl), .lst ((LS.map fun _ => true).map .bl)] h = .ok (.val (.bl true)) h := fun h => lsame_refl (by
      rw [dp_lst, dl_b]
      simp only [List.length_map, and_true]; omega)
    by_cases z : RS = []
    · have c0 : cl m RS = ([], false) := by rw [z]; unfold cl; simp
      rw [c0] at ea5
      have ce : (sT RS = "") = True := by rw [lit_e, sT_inj]; exact eq_true z
      have g1 := e_end0 ea5
      obtain ⟨h7, g2, d7⟩ := tail h5 d4 ea5
      have lc4 := fun b9 b12 b13 => il_lc (h := h7) (b0 := some (.val (.rdl (ns.map .int)))) (b1 := some (.val (.ref p))) (b2 := some (.val x)) (b3 := some (.val (.str (sT cs)))) (b4 := some (.val (.tup (LS.map tP)))) (b5 := some (.val (.str (sT RS)))) (b7 := some (.val (.int (m : Nat)))) (b8 := some (.val (.ref a))) (b9 := b9) (b10 := y10) (b11 := y11) (b12 := b12) (b13 := b13) (b14 := none) (b15 := none) (b16 := none) g
      have q3 : F__law_same 40 [.lst [.tup ((LS.map (cl m)).map clP), .tup [], .non, .non, .int (m : Nat)], .lst [.tup ((LS.map (cl m)).map clP), .tup [], .non, .non, .int (m : Nat)]] h5 = .ok (.val (.bl true)) h5 := lsame_refl (by
        rw [dp_lst, dl_cons, dl_cons, dl_cons, dl_cons, dl_cons, dl_nil, dp_tup, dl_cl, dp_tup, dl_nil, dp_non, dp_int]
        simp only [List.length_cons, List.length_nil, List.length_map, and_true]
        simp at M2
        omega)
      by_cases w : 10 ∈ cs
      · have wt := eq_true w
        dsimp! [ew, lc3, ce, List.length_map, L4, ef, g1, ea5, q3, g2, q5, lc4, k1, k2, k3, rp, q6, kl, sgn_nl, sT_cps, wt]
        exact next _ _ ⟨⟨_, _, _, _, _, _, _, _, _, _, _, rfl⟩, d7⟩
      · have wf := eq_false w
        dsimp! [ew, lc3, ce, List.length_map, L4, ef, g1, ea5, q3, g2, q5, lc4, k1, k2, k3, rp, q6, kl, sgn_nl, sT_cps, wf]
        exact next _ _ ⟨⟨_, _, _, _, _, _, _, _, _, _, _, rfl⟩, d7⟩
    · have ce : (sT RS = "") = False := by rw [lit_e, sT_inj]; exact eq_false z
      have rn : (cl m RS).1 ≠ [] := fun q => by
        unfold cl at q
        simp only [List.take_eq_nil_iff] at q
        rcases q with q | q
        · omega
        · exact z q
      have g1 := e_end1 rn ea5
      have ea6 : (updP h5 a (fo m [] false)) a = some (fo m [] false) := updP_same
      have d6 : DrH (updP h5 a (fo m [] false)) p := by unfold DrH; rw [updP_ne pa]; exact d4
      generalize updP h5 a (fo m [] false) = h6 at *
      have g1b := e_end0 ea6
      obtain ⟨h7, g2, d7⟩ := tail h6 d6 ea6
      have lc4 := fun b9 b12 b13 => il_lc (h := h7) (b0 := some (.val (.rdl (ns.map .int)))) (b1 := some (.val (.ref p))) (b2 := some (.val x)) (b3 := some (.val (.str (sT cs)))) (b4 := some (.val (.tup (LS.map tP)))) (b5 := some (.val (.str (sT RS)))) (b7 := some (.val (.int (m : Nat)))) (b8 := some (.val (.ref a))) (b9 := b9) (b10 := y10) (b11 := y11) (b12 := b12) (b13 := b13) (b14 := none) (b15 := none) (b16 := none) g
      have q3 : F__law_same 40 [.lst [.tup ((LS.map (cl m)).map clP), .tup [], clP (cl m RS), .non, .int (m : Nat)], .lst [.tup ((LS.map (cl m)).map clP), .tup [], clP (cl m RS), .non, .int (m : Nat)]] h6 = .ok (.val (.bl true)) h6 := lsame_refl (by
        rw [dp_lst, dl_cons, dl_cons, dl_cons, dl_cons, dl_cons, dl_nil, dp_tup, dl_cl, dp_tup, dl_nil, dp_cl, dp_non, dp_int]
        simp only [List.length_cons, List.length_nil, List.length_map, and_true]
        simp at M2
        omega)
      have gv : clP (cl m RS) = .tup [.str (sT (RS.take m)), .bl (decide (m < RS.length))] := rfl
      have g1 : F_Feeder_end [.ref a] h5 = .ok (.val (clP (cl m RS))) h6 := g1
      rw [gv] at g1 q3
      by_cases w : 10 ∈ cs
      · have wt := eq_true w
        dsimp! [ew, lc3, ce, ea5, sT_len, zr, cut_0n, dq, List.length_map, L4, ef, g1, g1b, ea6, q3, g2, q5, lc4, k1, k2, k3, rp, q6, kl, sgn_nl, sT_cps, wt]
        exact next _ _ ⟨⟨_, _, _, _, _, _, _, _, _, _, _, rfl⟩, d7⟩
      · have wf := eq_false w
        dsimp! [ew, lc3, ce, ea5, sT_len, zr, cut_0n, dq, List.length_map, L4, ef, g1, g1b, ea6, q3, g2, q5, lc4, k1, k2, k3, rp, q6, kl, sgn_nl, sT_cps, wf]
        exact next _ _ ⟨⟨_, _, _, _, _, _, _, _, _, _, _, rfl⟩, d7⟩
theorem law_true : ∀ (ns : List Int) (h : PH), ns.length ≤ 63 → wpF (F_law [.rdl (ns.map .int)] h) (fun e _ => e = .val (.bl true)) fun _ _ => False := fun ns h _ => by
  rw [u_law]; exact ok_def.mp (law_ok ns h)
end k05
set_option Elab.async false
set_option linter.all false
set_option maxRecDepth 100000
set_option maxHeartbeats 4000000
namespace k05
open PySem PySem.Spec PyProof.Rows L2 PP
/-! what the top says -/
structure Defs (K : PySem.W.Frag) (mg : Str → Option Value) : Prop where
  d_is_integer : ∃ (f : Addr) (fd : FuncData), Fun K "is_integer" "is_integer" st_is_integer f fd ∧ Binds K fd ["value"] [] ∧ mg "is_integer" = some (.ref f)
  d_is_sign : ∃ (f : Addr) (fd : FuncData), Fun K "is_sign" "is_sign" st_is_sign f fd ∧ Binds K fd ["sign"] [] ∧ mg "is_sign" = some (.ref f)
  d_is_text : ∃ (f : Addr) (fd : FuncData), Fun K "is_text" "is_text" st_is_text f fd ∧ Binds K fd ["value"] [] ∧ mg "is_text" = some (.ref f)
  d_is_line : ∃ (f : Addr) (fd : FuncData), Fun K "is_line" "is_line" st_is_line f fd ∧ Binds K fd ["value"] [] ∧ mg "is_line" = some (.ref f)
  d_look_at_line : ∃ (f : Addr) (fd : FuncData), Fun K "look_at_line" "look_at_line" st_look_at_line f fd ∧ Binds K fd ["value"] [] ∧ mg "look_at_line" = some (.ref f)
  d_look_at_lines : ∃ (f : Addr) (fd : FuncData), Fun K "look_at_lines" "look_at_lines" st_look_at_lines f fd ∧ Binds K fd ["value"] [] ∧ mg "look_at_lines" = some (.ref f)
  d_split_lines : ∃ (f : Addr) (fd : FuncData), Fun K "split_lines" "split_lines" st_split_lines f fd ∧ Binds K fd ["text"] [] ∧ mg "split_lines" = some (.ref f)
  d_join_lines : ∃ (f : Addr) (fd : FuncData), FunD K "join_lines" "join_lines" (defArgs st_join_lines) (defBody st_join_lines) (defScope st_join_lines) [.str ""] [] f fd ∧ Binds K fd ["lines", "rest"] [] ∧ (∃ ds, Vals [.str ""] ds ∧ Binds K fd ["lines", "rest"] ds) ∧ mg "join_lines" = some (.ref f)
  d_longest : ∃ (f : Addr) (fd : FuncData), Fun K "longest" "longest" st_longest f fd ∧ Binds K fd ["lines"] [] ∧ mg "longest" = some (.ref f)
  d__law_draws : ∃ (f : Addr) (fd : FuncData), Fun K "_law_draws" "_law_draws" st__law_draws f fd ∧ Binds K fd ["script"] [] ∧ mg "_law_draws" = some (.ref f)
  d__law_draw : ∃ (f : Addr) (fd : FuncData), Fun K "_law_draw" "_law_draw" st__law_draw f fd ∧ Binds K fd ["draws", "limit"] [] ∧ mg "_law_draw" = some (.ref f)
  d__law_same : ∃ (f : Addr) (fd : FuncData), Fun K "_law_same" "_law_same" st__law_same f fd ∧ Binds K fd ["actual", "expected"] [] ∧ mg "_law_same" = some (.ref f)
  d__law_line : ∃ (f : Addr) (fd : FuncData), Fun K "_law_line" "_law_line" st__law_line f fd ∧ Binds K fd ["draws", "most", "signs"] [] ∧ mg "_law_line" = some (.ref f)
  d__law_split : ∃ (f : Addr) (fd : FuncData), Fun K "_law_split" "_law_split" st__law_split f fd ∧ Binds K fd ["text"] [] ∧ mg "_law_split" = some (.ref f)
  d_Feeder___init__ : ∃ (Ca f : Addr) (fd : FuncData), Fun K "__init__" "Feeder.__init__" st_Feeder___init__ f fd ∧ Binds K fd ["self", "most"] [] ∧ PySem.W.nsIn K mainGlobals "Feeder" = some (some (.ref Ca)) ∧ mg "Feeder" = some (.ref Ca) ∧ Mk K Ca f
  d_Feeder_feed : ∃ (Ca f : Addr) (fd : FuncData), Fun K "feed" "Feeder.feed" st_Feeder_feed f fd ∧ Binds K fd ["self", "text"] [] ∧ PySem.W.nsIn K mainGlobals "Feeder" = some (some (.ref Ca)) ∧ Cls K Ca ∧ Meth K Ca "feed" f
  d__law_refused : ∃ (f : Addr) (fd : FuncData), Fun K "_law_refused" "_law_refused" st__law_refused f fd ∧ Binds K fd ["which", "value"] [] ∧ mg "_law_refused" = some (.ref f)
  d_Feeder_end : ∃ (Ca f : Addr) (fd : FuncData), Fun K "end" "Feeder.end" st_Feeder_end f fd ∧ Binds K fd ["self"] [] ∧ PySem.W.nsIn K mainGlobals "Feeder" = some (some (.ref Ca)) ∧ Cls K Ca ∧ Meth K Ca "end" f
  d_law : ∃ (f : Addr) (fd : FuncData), Fun K "law" "law" st_law f fd ∧ (∀ (s : Shared) (u : Value), BindsTo s fd ⟨[u], []⟩ [("script", u)]) ∧ mg "law" = some (.ref f)
theorem all_mk {K : PySem.W.Frag} {h : Heap} {mg : Str → Option Value} {C_BadLine C_Feeder f_is_integer f_is_sign f_is_text f_is_line f_look_at_line f_look_at_lines f_split_lines f_join_lines f_longest f__law_draws f__law_draw f__law_same f__law_line f__law_split f_Feeder___init__ f_Feeder_feed f__law_refused f_Feeder_end f_law : Addr} (X : K.In h) (G : h.Ns mainGlobals mg)
    {od_is_integer an_is_integer od_is_sign an_is_sign od_is_text an_is_text od_is_line an_is_line od_look_at_line an_look_at_line od_look_at_lines an_look_at_lines od_split_lines an_split_lines od_join_lines an_join_lines od_longest an_longest od__law_draws an__law_draws od__law_draw an__law_draw od__law_same an__law_same od__law_line an__law_line od__law_split an__law_split od_Feeder___init__ an_Feeder___init__ od_Feeder_feed an_Feeder_feed od__law_refused an__law_refused od_Feeder_end an_Feeder_end od_law an_law : Option Addr} {sl_is_integer sl_is_sign sl_is_text sl_is_line sl_look_at_line sl_look_at_lines sl_split_lines sl_join_lines sl_longest sl__law_draws sl__law_draw sl__law_same sl__law_line sl__law_split sl_Feeder___init__ sl_Feeder_feed sl__law_refused sl_Feeder_end sl_law : Array (Option Value)} {oc_is_integer kV_is_integer dc_is_integer pm_is_integer cd_is_integer ct_is_integer oc_is_sign kV_is_sign dc_is_sign pm_is_sign cd_is_sign ct_is_sign oc_is_text kV_is_text dc_is_text pm_is_text cd_is_text ct_is_text oc_is_line kV_is_line dc_is_line pm_is_line cd_is_line ct_is_line oc_look_at_line kV_look_at_line dc_look_at_line pm_look_at_line cd_look_at_line ct_look_at_line oc_look_at_lines kV_look_at_lines dc_look_at_lines pm_look_at_lines cd_look_at_lines ct_look_at_lines oc_split_lines kV_split_lines dc_split_lines pm_split_lines cd_split_lines ct_split_lines oc_join_lines kV_join_lines dc_join_lines pm_join_lines cd_join_lines ct_join_lines oc_longest kV_longest dc_longest pm_longest cd_longest ct_longest oc__law_draws kV__law_draws dc__law_draws pm__law_draws cd__law_draws ct__law_draws oc__law_draw kV__law_draw dc__law_draw pm__law_draw cd__law_draw ct__law_draw oc__law_same kV__law_same dc__law_same pm__law_same cd__law_same ct__law_same oc__law_line kV__law_line dc__law_line pm__law_line cd__law_line ct__law_line oc__law_split kV__law_split dc__law_split pm__law_split cd__law_split ct__law_split oc_Feeder___init__ kV_Feeder___init__ dc_Feeder___init__ pm_Feeder___init__ cd_Feeder___init__ ct_Feeder___init__ oc_Feeder_feed kV_Feeder_feed dc_Feeder_feed pm_Feeder_feed cd_Feeder_feed ct_Feeder_feed oc__law_refused kV__law_refused dc__law_refused pm__law_refused cd__law_refused ct__law_refused oc_Feeder_end kV_Feeder_end dc_Feeder_end pm_Feeder_end cd_Feeder_end ct_Feeder_end oc_law kV_law dc_law pm_law cd_law ct_law : Value}
    {T_join_lines : Addr} {tc_join_lines : Value} {td_join_lines : Option Addr} {tn_join_lines : Nat} {ts_join_lines : Array (Option Value)} {tk_join_lines : Tok}
    (aC_BadLine : PySem.W.nsIn K mainGlobals "BadLine" = some (some (.ref C_BadLine)))
    (aC_Feeder : PySem.W.nsIn K mainGlobals "Feeder" = some (some (.ref C_Feeder)))
    (xx_BadLine : PySem.W.excIn K C_BadLine [.type "ValueError", .type "Exception", .type "BaseException", .type "object"] "ValueError.__new__" = true)
    (xk_BadLine : PySem.W.keepIn K (.ref C_BadLine) = true)
    (xt_BadLine : PySem.W.typeIn K (.ref C_BadLine) = some (.type "type"))
    (xs_BadLine : PySem.W.subIn K (.ref C_BadLine) (.type "BaseException") = some true)
    (eg_BadLine : PySem.W.findIn K (.ref C_BadLine) "__getattribute__" = some (some (.builtin "BaseException.__getattribute__")))
    (eh_BadLine : PySem.W.findIn K (.ref C_BadLine) "__getattr__" = some none)
    (ed_BadLine : PySem.W.hasDictIn K C_BadLine = true)
    (ea_BadLine : PySem.W.findIn K (.ref C_BadLine) "__class__" = some (some (.builtin "object.__class__")))
    (em_BadLine : PySem.W.mroIn K C_BadLine (.type "object") = some true)
    (esn : PySem.W.specialIn K (.builtin "object.__class__") "__get__" = some (some (.builtin "getset_descriptor.__get__")))
    (est : PySem.W.takesIn K (.builtin "object.__class__") = some true)
    (m_BadLine_BadLine : PySem.W.exmOne K (.ref C_BadLine) (.ref C_BadLine) = some true)
    (i_BadLine_ValueError : PySem.W.kitOne K (.ref C_BadLine) (.type "ValueError") = some true)
    (z_ValueError : PySem.W.nsIn K mainGlobals "ValueError" = some none)
    (z_all : PySem.W.nsIn K mainGlobals "all" = some none)
    (z_bool : PySem.W.nsIn K mainGlobals "bool" = some none)
    (z_int : PySem.W.nsIn K mainGlobals "int" = some none)
    (z_isinstance : PySem.W.nsIn K mainGlobals "isinstance" = some none)
    (z_len : PySem.W.nsIn K mainGlobals "len" = some none)
    (z_list : PySem.W.nsIn K mainGlobals "list" = some none)
    (z_max : PySem.W.nsIn K mainGlobals "max" = some none)
    (z_ord : PySem.W.nsIn K mainGlobals "ord" = some none)
    (z_range : PySem.W.nsIn K mainGlobals "range" = some none)
    (z_str : PySem.W.nsIn K mainGlobals "str" = some none)
    (z_tuple : PySem.W.nsIn K mainGlobals "tuple" = some none)
    (pg_Feeder : PySem.W.plainGet K C_Feeder Str.empty = true)
    (hd_Feeder : PySem.W.hasDictIn K C_Feeder = true)
    (po_Feeder : PySem.W.plainOver K C_Feeder = true)
    (sb_Feeder : PySem.W.findIn K (.ref C_Feeder) "__setattr__" = some (some (.builtin "object.__setattr__")))
    (ms_Feeder : PySem.W.makesIn K C_Feeder = true)
    (kc_Feeder : PySem.W.keepIn K (.ref C_Feeder) = true)
    (nf_Feeder_most : PySem.W.findIn K (.ref C_Feeder) "most" = some none)
    (nf_Feeder_rest : PySem.W.findIn K (.ref C_Feeder) "rest" = some none)
    (nf_Feeder_cut : PySem.W.findIn K (.ref C_Feeder) "cut" = some none)
    (a_is_integer : PySem.W.nsIn K mainGlobals "is_integer" = some (some (.ref f_is_integer)))
    (l_is_integer : K.lookup f_is_integer = some ⟨oc_is_integer, od_is_integer, .func (PySem.W.fnOf "is_integer" "is_integer" (defArgs st_is_integer) (defBody st_is_integer) (defScope st_is_integer) .none kV_is_integer dc_is_integer pm_is_integer an_is_integer cd_is_integer ct_is_integer), sl_is_integer⟩)
    (c_is_integer : PySem.W.codeIn K cd_is_integer "is_integer" = true)
    (k_is_integer : PySem.W.keepIn K (.ref f_is_integer) = true)
    (a_is_sign : PySem.W.nsIn K mainGlobals "is_sign" = some (some (.ref f_is_sign)))
    (l_is_sign : K.lookup f_is_sign = some ⟨oc_is_sign, od_is_sign, .func (PySem.W.fnOf "is_sign" "is_sign" (defArgs st_is_sign) (defBody st_is_sign) (defScope st_is_sign) .none kV_is_sign dc_is_sign pm_is_sign an_is_sign cd_is_sign ct_is_sign), sl_is_sign⟩)
    (c_is_sign : PySem.W.codeIn K cd_is_sign "is_sign" = true)
    (k_is_sign : PySem.W.keepIn K (.ref f_is_sign) = true)
    (a_is_text : PySem.W.nsIn K mainGlobals "is_text" = some (some (.ref f_is_text)))
    (l_is_text : K.lookup f_is_text = some ⟨oc_is_text, od_is_text, .func (PySem.W.fnOf "is_text" "is_text" (defArgs st_is_text) (defBody st_is_text) (defScope st_is_text) .none kV_is_text dc_is_text pm_is_text an_is_text cd_is_text ct_is_text), sl_is_text⟩)
    (c_is_text : PySem.W.codeIn K cd_is_text "is_text" = true)
    (k_is_text : PySem.W.keepIn K (.ref f_is_text) = true)
    (a_is_line : PySem.W.nsIn K mainGlobals "is_line" = some (some (.ref f_is_line)))
    (l_is_line : K.lookup f_is_line = some ⟨oc_is_line, od_is_line, .func (PySem.W.fnOf "is_line" "is_line" (defArgs st_is_line) (defBody st_is_line) (defScope st_is_line) .none kV_is_line dc_is_line pm_is_line an_is_line cd_is_line ct_is_line), sl_is_line⟩)
    (c_is_line : PySem.W.codeIn K cd_is_line "is_line" = true)
    (k_is_line : PySem.W.keepIn K (.ref f_is_line) = true)
    (a_look_at_line : PySem.W.nsIn K mainGlobals "look_at_line" = some (some (.ref f_look_at_line)))
    (l_look_at_line : K.lookup f_look_at_line = some ⟨oc_look_at_line, od_look_at_line, .func (PySem.W.fnOf "look_at_line" "look_at_line" (defArgs st_look_at_line) (defBody st_look_at_line) (defScope st_look_at_line) .none kV_look_at_line dc_look_at_line pm_look_at_line an_look_at_line cd_look_at_line ct_look_at_line), sl_look_at_line⟩)
    (c_look_at_line : PySem.W.codeIn K cd_look_at_line "look_at_line" = true)
    (k_look_at_line : PySem.W.keepIn K (.ref f_look_at_line) = true)
    (a_look_at_lines : PySem.W.nsIn K mainGlobals "look_at_lines" = some (some (.ref f_look_at_lines)))
    (l_look_at_lines : K.lookup f_look_at_lines = some ⟨oc_look_at_lines, od_look_at_lines, .func (PySem.W.fnOf "look_at_lines" "look_at_lines" (defArgs st_look_at_lines) (defBody st_look_at_lines) (defScope st_look_at_lines) .none kV_look_at_lines dc_look_at_lines pm_look_at_lines an_look_at_lines cd_look_at_lines ct_look_at_lines), sl_look_at_lines⟩)
    (c_look_at_lines : PySem.W.codeIn K cd_look_at_lines "look_at_lines" = true)
    (k_look_at_lines : PySem.W.keepIn K (.ref f_look_at_lines) = true)
    (a_split_lines : PySem.W.nsIn K mainGlobals "split_lines" = some (some (.ref f_split_lines)))
    (l_split_lines : K.lookup f_split_lines = some ⟨oc_split_lines, od_split_lines, .func (PySem.W.fnOf "split_lines" "split_lines" (defArgs st_split_lines) (defBody st_split_lines) (defScope st_split_lines) .none kV_split_lines dc_split_lines pm_split_lines an_split_lines cd_split_lines ct_split_lines), sl_split_lines⟩)
    (c_split_lines : PySem.W.codeIn K cd_split_lines "split_lines" = true)
    (k_split_lines : PySem.W.keepIn K (.ref f_split_lines) = true)
    (a_join_lines : PySem.W.nsIn K mainGlobals "join_lines" = some (some (.ref f_join_lines)))
    (l_join_lines : K.lookup f_join_lines = some ⟨oc_join_lines, od_join_lines, .func (PySem.W.fnOf "join_lines" "join_lines" (defArgs st_join_lines) (defBody st_join_lines) (defScope st_join_lines) (.ref T_join_lines) kV_join_lines dc_join_lines pm_join_lines an_join_lines cd_join_lines ct_join_lines), sl_join_lines⟩)
    (lT_join_lines : K.lookup T_join_lines = some ⟨tc_join_lines, td_join_lines, .seq [.str "" tk_join_lines].toArray tn_join_lines, ts_join_lines⟩)
    (c_join_lines : PySem.W.codeIn K cd_join_lines "join_lines" = true)
    (k_join_lines : PySem.W.keepIn K (.ref f_join_lines) = true)
    (a_longest : PySem.W.nsIn K mainGlobals "longest" = some (some (.ref f_longest)))
    (l_longest : K.lookup f_longest = some ⟨oc_longest, od_longest, .func (PySem.W.fnOf "longest" "longest" (defArgs st_longest) (defBody st_longest) (defScope st_longest) .none kV_longest dc_longest pm_longest an_longest cd_longest ct_longest), sl_longest⟩)
    (c_longest : PySem.W.codeIn K cd_longest "longest" = true)
    (k_longest : PySem.W.keepIn K (.ref f_longest) = true)
    (a__law_draws : PySem.W.nsIn K mainGlobals "_law_draws" = some (some (.ref f__law_draws)))
    (l__law_draws : K.lookup f__law_draws = some ⟨oc__law_draws, od__law_draws, .func (PySem.W.fnOf "_law_draws" "_law_draws" (defArgs st__law_draws) (defBody st__law_draws) (defScope st__law_draws) .none kV__law_draws dc__law_draws pm__law_draws an__law_draws cd__law_draws ct__law_draws), sl__law_draws⟩)
    (c__law_draws : PySem.W.codeIn K cd__law_draws "_law_draws" = true)
    (k__law_draws : PySem.W.keepIn K (.ref f__law_draws) = true)
    (a__law_draw : PySem.W.nsIn K mainGlobals "_law_draw" = some (some (.ref f__law_draw)))
    (l__law_draw : K.lookup f__law_draw = some ⟨oc__law_draw, od__law_draw, .func (PySem.W.fnOf "_law_draw" "_law_draw" (defArgs st__law_draw) (defBody st__law_draw) (defScope st__law_draw) .none kV__law_draw dc__law_draw pm__law_draw an__law_draw cd__law_draw ct__law_draw), sl__law_draw⟩)
    (c__law_draw : PySem.W.codeIn K cd__law_draw "_law_draw" = true)
    (k__law_draw : PySem.W.keepIn K (.ref f__law_draw) = true)
    (a__law_same : PySem.W.nsIn K mainGlobals "_law_same" = some (some (.ref f__law_same)))
    (l__law_same : K.lookup f__law_same = some ⟨oc__law_same, od__law_same, .func (PySem.W.fnOf "_law_same" "_law_same" (defArgs st__law_same) (defBody st__law_same) (defScope st__law_same) .none kV__law_same dc__law_same pm__law_same an__law_same cd__law_same ct__law_same), sl__law_same⟩)
    (c__law_same : PySem.W.codeIn K cd__law_same "_law_same" = true)
    (k__law_same : PySem.W.keepIn K (.ref f__law_same) = true)
    (a__law_line : PySem.W.nsIn K mainGlobals "_law_line" = some (some (.ref f__law_line)))
    (l__law_line : K.lookup f__law_line = some ⟨oc__law_line, od__law_line, .func (PySem.W.fnOf "_law_line" "_law_line" (defArgs st__law_line) (defBody st__law_line) (defScope st__law_line) .none kV__law_line dc__law_line pm__law_line an__law_line cd__law_line ct__law_line), sl__law_line⟩)
    (c__law_line : PySem.W.codeIn K cd__law_line "_law_line" = true)
    (k__law_line : PySem.W.keepIn K (.ref f__law_line) = true)
    (a__law_split : PySem.W.nsIn K mainGlobals "_law_split" = some (some (.ref f__law_split)))
    (l__law_split : K.lookup f__law_split = some ⟨oc__law_split, od__law_split, .func (PySem.W.fnOf "_law_split" "_law_split" (defArgs st__law_split) (defBody st__law_split) (defScope st__law_split) .none kV__law_split dc__law_split pm__law_split an__law_split cd__law_split ct__law_split), sl__law_split⟩)
    (c__law_split : PySem.W.codeIn K cd__law_split "_law_split" = true)
    (k__law_split : PySem.W.keepIn K (.ref f__law_split) = true)
    (mt_Feeder___init__ : PySem.W.findIn K (.ref C_Feeder) "__init__" = some (some (.ref f_Feeder___init__)))
    (l_Feeder___init__ : K.lookup f_Feeder___init__ = some ⟨oc_Feeder___init__, od_Feeder___init__, .func (PySem.W.fnOf "__init__" "Feeder.__init__" (defArgs st_Feeder___init__) (defBody st_Feeder___init__) (defScope st_Feeder___init__) .none kV_Feeder___init__ dc_Feeder___init__ pm_Feeder___init__ an_Feeder___init__ cd_Feeder___init__ ct_Feeder___init__), sl_Feeder___init__⟩)
    (c_Feeder___init__ : PySem.W.codeIn K cd_Feeder___init__ "Feeder.__init__" = true)
    (k_Feeder___init__ : PySem.W.keepIn K (.ref f_Feeder___init__) = true)
    (fn_Feeder___init__ : PySem.W.isFn K (.ref f_Feeder___init__) = true)
    (mt_Feeder_feed : PySem.W.findIn K (.ref C_Feeder) "feed" = some (some (.ref f_Feeder_feed)))
    (l_Feeder_feed : K.lookup f_Feeder_feed = some ⟨oc_Feeder_feed, od_Feeder_feed, .func (PySem.W.fnOf "feed" "Feeder.feed" (defArgs st_Feeder_feed) (defBody st_Feeder_feed) (defScope st_Feeder_feed) .none kV_Feeder_feed dc_Feeder_feed pm_Feeder_feed an_Feeder_feed cd_Feeder_feed ct_Feeder_feed), sl_Feeder_feed⟩)
    (c_Feeder_feed : PySem.W.codeIn K cd_Feeder_feed "Feeder.feed" = true)
    (k_Feeder_feed : PySem.W.keepIn K (.ref f_Feeder_feed) = true)
    (fn_Feeder_feed : PySem.W.isFn K (.ref f_Feeder_feed) = true)
    (a__law_refused : PySem.W.nsIn K mainGlobals "_law_refused" = some (some (.ref f__law_refused)))
    (l__law_refused : K.lookup f__law_refused = some ⟨oc__law_refused, od__law_refused, .func (PySem.W.fnOf "_law_refused" "_law_refused" (defArgs st__law_refused) (defBody st__law_refused) (defScope st__law_refused) .none kV__law_refused dc__law_refused pm__law_refused an__law_refused cd__law_refused ct__law_refused), sl__law_refused⟩)
    (c__law_refused : PySem.W.codeIn K cd__law_refused "_law_refused" = true)
    (k__law_refused : PySem.W.keepIn K (.ref f__law_refused) = true)
    (mt_Feeder_end : PySem.W.findIn K (.ref C_Feeder) "end" = some (some (.ref f_Feeder_end)))
    (l_Feeder_end : K.lookup f_Feeder_end = some ⟨oc_Feeder_end, od_Feeder_end, .func (PySem.W.fnOf "end" "Feeder.end" (defArgs st_Feeder_end) (defBody st_Feeder_end) (defScope st_Feeder_end) .none kV_Feeder_end dc_Feeder_end pm_Feeder_end an_Feeder_end cd_Feeder_end ct_Feeder_end), sl_Feeder_end⟩)
    (c_Feeder_end : PySem.W.codeIn K cd_Feeder_end "Feeder.end" = true)
    (k_Feeder_end : PySem.W.keepIn K (.ref f_Feeder_end) = true)
    (fn_Feeder_end : PySem.W.isFn K (.ref f_Feeder_end) = true)
    (a_law : PySem.W.nsIn K mainGlobals "law" = some (some (.ref f_law)))
    (l_law : K.lookup f_law = some ⟨oc_law, od_law, .func (PySem.W.fnOf "law" "law" (defArgs st_law) (defBody st_law) (defScope st_law) .none kV_law dc_law pm_law an_law cd_law ct_law), sl_law⟩)
    (c_law : PySem.W.codeIn K cd_law "law" = true)
    (k_law : PySem.W.keepIn K (.ref f_law) = true)
    : Txt K mg ∧ Defs K mg := by
  have g_BadLine := PySem.W.mg_of X G aC_BadLine
  have g_Feeder := PySem.W.mg_of X G aC_Feeder
  have cv_BadLine : cvOf mg "BadLine" = .ref C_BadLine := by unfold cvOf; rw [g_BadLine]
  have cv_ValueError : cvOf mg "ValueError" = .type "ValueError" := by unfold cvOf; rw [PySem.W.mg_none_of X G z_ValueError]; rfl
  exact ⟨{
    ValueError_ := PySem.W.mg_none_of X G z_ValueError
    all_ := PySem.W.mg_none_of X G z_all
    bool_ := PySem.W.mg_none_of X G z_bool
    int_ := PySem.W.mg_none_of X G z_int
    isinstance_ := PySem.W.mg_none_of X G z_isinstance
    len_ := PySem.W.mg_none_of X G z_len
    list_ := PySem.W.mg_none_of X G z_list
    max_ := PySem.W.mg_none_of X G z_max
    ord_ := PySem.W.mg_none_of X G z_ord
    range_ := PySem.W.mg_none_of X G z_range
    str_ := PySem.W.mg_none_of X G z_str
    tuple_ := PySem.W.mg_none_of X G z_tuple
    nv_BadLine := nv_own g_BadLine
    x_BadLine := ⟨C_BadLine, g_BadLine, xx_BadLine, xk_BadLine, xs_BadLine, xt_BadLine⟩
    cf_cut := fun C e => by
      unfold cf_cut at e
      by_cases h_Feeder : C = "Feeder"
      · subst h_Feeder; exact ⟨C_Feeder, aC_Feeder, ⟨pg_Feeder, hd_Feeder, po_Feeder, sb_Feeder⟩, nf_Feeder_cut⟩
      simp [h_Feeder] at e
    cf_most := fun C e => by
      unfold cf_most at e
      by_cases h_Feeder : C = "Feeder"
      · subst h_Feeder; exact ⟨C_Feeder, aC_Feeder, ⟨pg_Feeder, hd_Feeder, po_Feeder, sb_Feeder⟩, nf_Feeder_most⟩
      simp [h_Feeder] at e
    cf_rest := fun C e => by
      unfold cf_rest at e
      by_cases h_Feeder : C = "Feeder"
      · subst h_Feeder; exact ⟨C_Feeder, aC_Feeder, ⟨pg_Feeder, hd_Feeder, po_Feeder, sb_Feeder⟩, nf_Feeder_rest⟩
      simp [h_Feeder] at e
    xm_BadLine := fun x b e => by
      unfold tb_BadLine at e
      by_cases h_BadLine : x = "BadLine"
      · rw [if_pos h_BadLine] at e; cases e; subst h_BadLine; exact ⟨C_BadLine, g_BadLine, by rw [cv_BadLine]; exact m_BadLine_BadLine⟩
      rw [if_neg h_BadLine] at e
      cases e
    xi_ValueError := fun x b e => by
      unfold ti_ValueError at e
      by_cases h_BadLine : x = "BadLine"
      · rw [if_pos h_BadLine] at e; cases e; subst h_BadLine; exact ⟨C_BadLine, g_BadLine, ⟨eg_BadLine, eh_BadLine, xs_BadLine, ed_BadLine, ea_BadLine, esn, est, em_BadLine⟩, by rw [cv_ValueError]; exact i_BadLine_ValueError⟩
      rw [if_neg h_BadLine] at e
      cases e },
  {
    d_is_integer := ⟨_, _, fun_mk (st := st_is_integer) l_is_integer c_is_integer k_is_integer, (fun_mk (st := st_is_integer) l_is_integer c_is_integer k_is_integer).binds (ps := ["value"]) fun _ _ _ _ _ _ us hl => match us, hl with | [_], _ => rfl, PySem.W.mg_of X G a_is_integer⟩
    d_is_sign := ⟨_, _, fun_mk (st := st_is_sign) l_is_sign c_is_sign k_is_sign, (fun_mk (st := st_is_sign) l_is_sign c_is_sign k_is_sign).binds (ps := ["sign"]) fun _ _ _ _ _ _ us hl => match us, hl with | [_], _ => rfl, PySem.W.mg_of X G a_is_sign⟩
    d_is_text := ⟨_, _, fun_mk (st := st_is_text) l_is_text c_is_text k_is_text, (fun_mk (st := st_is_text) l_is_text c_is_text k_is_text).binds (ps := ["value"]) fun _ _ _ _ _ _ us hl => match us, hl with | [_], _ => rfl, PySem.W.mg_of X G a_is_text⟩
    d_is_line := ⟨_, _, fun_mk (st := st_is_line) l_is_line c_is_line k_is_line, (fun_mk (st := st_is_line) l_is_line c_is_line k_is_line).binds (ps := ["value"]) fun _ _ _ _ _ _ us hl => match us, hl with | [_], _ => rfl, PySem.W.mg_of X G a_is_line⟩
    d_look_at_line := ⟨_, _, fun_mk (st := st_look_at_line) l_look_at_line c_look_at_line k_look_at_line, (fun_mk (st := st_look_at_line) l_look_at_line c_look_at_line k_look_at_line).binds (ps := ["value"]) fun _ _ _ _ _ _ us hl => match us, hl with | [_], _ => rfl, PySem.W.mg_of X G a_look_at_line⟩
    d_look_at_lines := ⟨_, _, fun_mk (st := st_look_at_lines) l_look_at_lines c_look_at_lines k_look_at_lines, (fun_mk (st := st_look_at_lines) l_look_at_lines c_look_at_lines k_look_at_lines).binds (ps := ["value"]) fun _ _ _ _ _ _ us hl => match us, hl with | [_], _ => rfl, PySem.W.mg_of X G a_look_at_lines⟩
    d_split_lines := ⟨_, _, fun_mk (st := st_split_lines) l_split_lines c_split_lines k_split_lines, (fun_mk (st := st_split_lines) l_split_lines c_split_lines k_split_lines).binds (ps := ["text"]) fun _ _ _ _ _ _ us hl => match us, hl with | [_], _ => rfl, PySem.W.mg_of X G a_split_lines⟩
    d_join_lines := ⟨_, _, funD_mk (st := st_join_lines) (dvs := [.str ""]) l_join_lines c_join_lines k_join_lines lT_join_lines (.cons (by first | exact rfl | exact ⟨_, rfl⟩) .nil) (by simp), (by obtain ⟨ds, vd, bi⟩ := FunD.binds1 (funD_mk (st := st_join_lines) (dvs := [.str ""]) l_join_lines c_join_lines k_join_lines lT_join_lines (.cons (by first | exact rfl | exact ⟨_, rfl⟩) .nil) (by simp)) (ps := ["lines", "rest"]) 2 1 (by simp) (by rfl) (fun T kV doc pm an cdv ct us its h1 h2 => match us, its, h1, h2 with | [_, _], [_], _, _ => ⟨_, rfl, rfl⟩); cases vd; exact bi), FunD.binds1 (funD_mk (st := st_join_lines) (dvs := [.str ""]) l_join_lines c_join_lines k_join_lines lT_join_lines (.cons (by first | exact rfl | exact ⟨_, rfl⟩) .nil) (by simp)) (ps := ["lines", "rest"]) 1 0 (by simp) (by rfl) (fun T kV doc pm an cdv ct us its h1 h2 => match us, its, h1, h2 with | [_], [_], _, _ => ⟨_, rfl, rfl⟩), PySem.W.mg_of X G a_join_lines⟩
    d_longest := ⟨_, _, fun_mk (st := st_longest) l_longest c_longest k_longest, (fun_mk (st := st_longest) l_longest c_longest k_longest).binds (ps := ["lines"]) fun _ _ _ _ _ _ us hl => match us, hl with | [_], _ => rfl, PySem.W.mg_of X G a_longest⟩
    d__law_draws := ⟨_, _, fun_mk (st := st__law_draws) l__law_draws c__law_draws k__law_draws, (fun_mk (st := st__law_draws) l__law_draws c__law_draws k__law_draws).binds (ps := ["script"]) fun _ _ _ _ _ _ us hl => match us, hl with | [_], _ => rfl, PySem.W.mg_of X G a__law_draws⟩
    d__law_draw := ⟨_, _, fun_mk (st := st__law_draw) l__law_draw c__law_draw k__law_draw, (fun_mk (st := st__law_draw) l__law_draw c__law_draw k__law_draw).binds (ps := ["draws", "limit"]) fun _ _ _ _ _ _ us hl => match us, hl with | [_, _], _ => rfl, PySem.W.mg_of X G a__law_draw⟩
    d__law_same := ⟨_, _, fun_mk (st := st__law_same) l__law_same c__law_same k__law_same, (fun_mk (st := st__law_same) l__law_same c__law_same k__law_same).binds (ps := ["actual", "expected"]) fun _ _ _ _ _ _ us hl => match us, hl with | [_, _], _ => rfl, PySem.W.mg_of X G a__law_same⟩
    d__law_line := ⟨_, _, fun_mk (st := st__law_line) l__law_line c__law_line k__law_line, (fun_mk (st := st__law_line) l__law_line c__law_line k__law_line).binds (ps := ["draws", "most", "signs"]) fun _ _ _ _ _ _ us hl => match us, hl with | [_, _, _], _ => rfl, PySem.W.mg_of X G a__law_line⟩
    d__law_split := ⟨_, _, fun_mk (st := st__law_split) l__law_split c__law_split k__law_split, (fun_mk (st := st__law_split) l__law_split c__law_split k__law_split).binds (ps := ["text"]) fun _ _ _ _ _ _ us hl => match us, hl with | [_], _ => rfl, PySem.W.mg_of X G a__law_split⟩
    d_Feeder___init__ := ⟨C_Feeder, _, _, fun_mk (st := st_Feeder___init__) l_Feeder___init__ c_Feeder___init__ k_Feeder___init__, (fun_mk (st := st_Feeder___init__) l_Feeder___init__ c_Feeder___init__ k_Feeder___init__).binds (ps := ["self", "most"]) fun _ _ _ _ _ _ us hl => match us, hl with | [_, _], _ => rfl, aC_Feeder, g_Feeder, ⟨ms_Feeder, mt_Feeder___init__, fn_Feeder___init__, kc_Feeder⟩⟩
    d_Feeder_feed := ⟨C_Feeder, _, _, fun_mk (st := st_Feeder_feed) l_Feeder_feed c_Feeder_feed k_Feeder_feed, (fun_mk (st := st_Feeder_feed) l_Feeder_feed c_Feeder_feed k_Feeder_feed).binds (ps := ["self", "text"]) fun _ _ _ _ _ _ us hl => match us, hl with | [_, _], _ => rfl, aC_Feeder, ⟨pg_Feeder, hd_Feeder, po_Feeder, sb_Feeder⟩, ⟨mt_Feeder_feed, fn_Feeder_feed, k_Feeder_feed⟩⟩
    d__law_refused := ⟨_, _, fun_mk (st := st__law_refused) l__law_refused c__law_refused k__law_refused, (fun_mk (st := st__law_refused) l__law_refused c__law_refused k__law_refused).binds (ps := ["which", "value"]) fun _ _ _ _ _ _ us hl => match us, hl with | [_, _], _ => rfl, PySem.W.mg_of X G a__law_refused⟩
    d_Feeder_end := ⟨C_Feeder, _, _, fun_mk (st := st_Feeder_end) l_Feeder_end c_Feeder_end k_Feeder_end, (fun_mk (st := st_Feeder_end) l_Feeder_end c_Feeder_end k_Feeder_end).binds (ps := ["self"]) fun _ _ _ _ _ _ us hl => match us, hl with | [_], _ => rfl, aC_Feeder, ⟨pg_Feeder, hd_Feeder, po_Feeder, sb_Feeder⟩, ⟨mt_Feeder_end, fn_Feeder_end, k_Feeder_end⟩⟩
    d_law := ⟨_, _, fun_mk (st := st_law) l_law c_law k_law, fun s u => .of_eq rfl, PySem.W.mg_of X G a_law⟩ }⟩
theorem fin {P : Program} {w : World} {K : PySem.W.Frag} {mg : Str → Option Value} {base : Heap} (T : Txt K mg) (D : Defs K mg) {f : Addr} {fd : FuncData} (F : Fun K "law" "law" st_law f fd) : FnOk P w K mg base (L2.CX P w) 41 f fd ["script"] (spScript K) := by
  obtain ⟨f_is_integer, fd_is_integer, Fis_integer, bis_integer, mis_integer⟩ := D.d_is_integer
  have g_is_integer : ∀ {N : List Str} {st : Stmt} {k : Nat}, 1 ≤ k → FnS (.fn0 P w K mg base N st k) "is_integer" 1 [] (upF F_is_integer) := fun {N st k} hk => by
    rw [F_is_integer_def]; exact fnS_of (k := 0) Fis_integer bis_integer mis_integer sc_is_integer rfl (b_is_integer T ) upF_mono up_runF (by omega)
  obtain ⟨f_is_sign, fd_is_sign, Fis_sign, bis_sign, mis_sign⟩ := D.d_is_sign
  have g_is_sign : ∀ {N : List Str} {st : Stmt} {k : Nat}, 1 ≤ k → FnS (.fn0 P w K mg base N st k) "is_sign" 1 [] (upF F_is_sign) := fun {N st k} hk => by
    rw [F_is_sign_def]; exact fnS_of (k := 0) Fis_sign bis_sign mis_sign sc_is_sign rfl (b_is_sign T ) upF_mono up_runF (by omega)
  obtain ⟨f_is_text, fd_is_text, Fis_text, bis_text, mis_text⟩ := D.d_is_text
  have g_is_text : ∀ {N : List Str} {st : Stmt} {k : Nat}, 2 ≤ k → FnS (.fn0 P w K mg base N st k) "is_text" 1 [] (upF F_is_text) := fun {N st k} hk => by
    rw [F_is_text_def]; exact fnS_of (k := 1) Fis_text bis_text mis_text sc_is_text rfl (b_is_text T (g_is_sign (by omega))) upF_mono up_runF (by omega)
  obtain ⟨f_is_line, fd_is_line, Fis_line, bis_line, mis_line⟩ := D.d_is_line
  have g_is_line : ∀ {N : List Str} {st : Stmt} {k : Nat}, 3 ≤ k → FnS (.fn0 P w K mg base N st k) "is_line" 1 [] (upF F_is_line) := fun {N st k} hk => by
    rw [F_is_line_def]; exact fnS_of (k := 2) Fis_line bis_line mis_line sc_is_line rfl (b_is_line T (g_is_text (by omega))) upF_mono up_runF (by omega)
  obtain ⟨f_look_at_line, fd_look_at_line, Flook_at_line, blook_at_line, mlook_at_line⟩ := D.d_look_at_line
  have g_look_at_line : ∀ {N : List Str} {st : Stmt} {k : Nat}, 4 ≤ k → FnS (.fn0 P w K mg base N st k) "look_at_line" 1 [] (upF F_look_at_line) := fun {N st k} hk => by
    rw [F_look_at_line_def]; exact fnS_of (k := 3) Flook_at_line blook_at_line mlook_at_line sc_look_at_line rfl (b_look_at_line T (g_is_line (by omega))) upF_mono up_runF (by omega)
  obtain ⟨f_look_at_lines, fd_look_at_lines, Flook_at_lines, blook_at_lines, mlook_at_lines⟩ := D.d_look_at_lines
  have g_look_at_lines : ∀ {N : List Str} {st : Stmt} {k : Nat}, 4 ≤ k → FnS (.fn0 P w K mg base N st k) "look_at_lines" 1 [] (upF F_look_at_lines) := fun {N st k} hk => by
    rw [F_look_at_lines_def]; exact fnS_of (k := 3) Flook_at_lines blook_at_lines mlook_at_lines sc_look_at_lines rfl (b_look_at_lines T (g_is_line (by omega))) upF_mono up_runF (by omega)
  obtain ⟨f_split_lines, fd_split_lines, Fsplit_lines, bsplit_lines, msplit_lines⟩ := D.d_split_lines
  have g_split_lines : ∀ {N : List Str} {st : Stmt} {k : Nat}, 3 ≤ k → FnS (.fn0 P w K mg base N st k) "split_lines" 1 [] (upF F_split_lines) := fun {N st k} hk => by
    rw [F_split_lines_def]; exact fnS_of (k := 2) Fsplit_lines bsplit_lines msplit_lines sc_split_lines rfl (b_split_lines T (g_is_text (by omega))) upF_mono up_runF (by omega)
  obtain ⟨f_join_lines, fd_join_lines, Fjoin_lines, bjoin_lines, ⟨ds_join_lines, vjoin_lines, cjoin_lines⟩, mjoin_lines⟩ := D.d_join_lines
  have g_join_lines : ∀ {N : List Str} {st : Stmt} {k : Nat}, 5 ≤ k → FnS (.fn0 P w K mg base N st k) "join_lines" 2 [] (upF F_join_lines) := fun {N st k} hk => by
    rw [F_join_lines_def]; exact fnS_ofD (k := 4) Fjoin_lines bjoin_lines .nil (fun _ _ => .nil) mjoin_lines sc_join_lines rfl (b_join_lines T (g_look_at_line (by omega)) (g_look_at_lines (by omega))) upF_mono up_runF (by omega)
  have gd_join_lines : ∀ {N : List Str} {st : Stmt} {k : Nat}, 5 ≤ k → FnS (.fn0 P w K mg base N st k) "join_lines" 2 [.str ""] (upF F_join_lines) := fun {N st k} hk => by
    rw [F_join_lines_def]; exact fnS_ofD (k := 4) Fjoin_lines cjoin_lines vjoin_lines (fun _ _ => .cons (.str _) .nil) mjoin_lines sc_join_lines rfl (b_join_lines T (g_look_at_line (by omega)) (g_look_at_lines (by omega))) upF_mono up_runF (by omega)
  obtain ⟨f_longest, fd_longest, Flongest, blongest, mlongest⟩ := D.d_longest
  have g_longest : ∀ {N : List Str} {st : Stmt} {k : Nat}, 5 ≤ k → FnS (.fn0 P w K mg base N st k) "longest" 1 [] (upF F_longest) := fun {N st k} hk => by
    rw [F_longest_def]; exact fnS_of (k := 4) Flongest blongest mlongest sc_longest rfl (b_longest T (g_look_at_lines (by omega))) upF_mono up_runF (by omega)
  obtain ⟨f__law_draws, fd__law_draws, F_law_draws, b_law_draws, m_law_draws⟩ := D.d__law_draws
  have g__law_draws : ∀ {N : List Str} {st : Stmt} {k : Nat}, 1 ≤ k → FnS (.fn0 P w K mg base N st k) "_law_draws" 1 [] (upF F__law_draws) := fun {N st k} hk => by
    rw [F__law_draws_def]; exact fnS_of (k := 0) F_law_draws b_law_draws m_law_draws sc__law_draws rfl (b__law_draws T ) upF_mono up_runF (by omega)
  obtain ⟨f__law_draw, fd__law_draw, F_law_draw, b_law_draw, m_law_draw⟩ := D.d__law_draw
  have g__law_draw : ∀ {N : List Str} {st : Stmt} {k : Nat}, 1 ≤ k → FnS (.fn0 P w K mg base N st k) "_law_draw" 2 [] (upF F__law_draw) := fun {N st k} hk => by
    rw [F__law_draw_def]; exact fnS_of (k := 0) F_law_draw b_law_draw m_law_draw sc__law_draw rfl (b__law_draw T ) upF_mono up_runF (by omega)
  obtain ⟨f__law_same, fd__law_same, F_law_same, b_law_same, m_law_same⟩ := D.d__law_same
  have g__law_same : ∀ (n : Nat) {N : List Str} {st : Stmt} {k : Nat}, 0 + n ≤ k → FnS (.fn0 P w K mg base N st k) "_law_same" 2 [] (upF (F__law_same n)) := by
    intro n
    induction n with
    | zero => intro N st k hk; rw [F__law_same_zero]; exact fnS_stk F_law_same b_law_same m_law_same
    | succ n ih => intro N st k hk; rw [F__law_same_succ]; exact fnS_of (k := 0 + n) F_law_same b_law_same m_law_same sc__law_same rfl (b__law_same T (ih (Nat.le_refl _))) upF_mono up_runF (by omega)
  obtain ⟨f__law_line, fd__law_line, F_law_line, b_law_line, m_law_line⟩ := D.d__law_line
  have g__law_line : ∀ {N : List Str} {st : Stmt} {k : Nat}, 2 ≤ k → FnS (.fn0 P w K mg base N st k) "_law_line" 3 [] (upF F__law_line) := fun {N st k} hk => by
    rw [F__law_line_def]; exact fnS_of (k := 1) F_law_line b_law_line m_law_line sc__law_line rfl (b__law_line T (g__law_draw (by omega))) upF_mono up_runF (by omega)
  obtain ⟨f__law_split, fd__law_split, F_law_split, b_law_split, m_law_split⟩ := D.d__law_split
  have g__law_split : ∀ {N : List Str} {st : Stmt} {k : Nat}, 1 ≤ k → FnS (.fn0 P w K mg base N st k) "_law_split" 1 [] (upF F__law_split) := fun {N st k} hk => by
    rw [F__law_split_def]; exact fnS_of (k := 0) F_law_split b_law_split m_law_split sc__law_split rfl (b__law_split T ) upF_mono up_runF (by omega)
  obtain ⟨Ca_Feeder___init__, f_Feeder___init__, fd_Feeder___init__, FFeeder___init__, bFeeder___init__, nFeeder___init__, mFeeder___init__, tFeeder___init__⟩ := D.d_Feeder___init__
  have I_Feeder : ∀ {N : List Str} {st : Stmt} {k : Nat}, 3 ≤ k → FnI (.fn0 P w K mg base N st k) "Feeder" 2 (upF F_Feeder___init__) := fun {N st k} hk => by
    rw [F_Feeder___init___def]; exact fnI_of (k := 1) FFeeder___init__ bFeeder___init__ mFeeder___init__ nFeeder___init__ tFeeder___init__ sc_Feeder___init__ rfl (b_Feeder___init__ T (g_is_integer (by omega))) upF_mono up_runF (by omega)
  obtain ⟨Ca_Feeder_feed, f_Feeder_feed, fd_Feeder_feed, FFeeder_feed, bFeeder_feed, nFeeder_feed, cFeeder_feed, tFeeder_feed⟩ := D.d_Feeder_feed
  have M_Feeder_feed : ∀ {N : List Str} {st : Stmt} {k : Nat}, 3 ≤ k → FnM (.fn0 P w K mg base N st k) "Feeder" "feed" 2 (upF F_Feeder_feed) := fun {N st k} hk => by
    rw [F_Feeder_feed_def]; exact fnM_of (k := 2) FFeeder_feed bFeeder_feed nFeeder_feed cFeeder_feed tFeeder_feed sc_Feeder_feed rfl (b_Feeder_feed T (g_is_text (by omega))) upF_mono up_runF (by omega)
  obtain ⟨f__law_refused, fd__law_refused, F_law_refused, b_law_refused, m_law_refused⟩ := D.d__law_refused
  have g__law_refused : ∀ {N : List Str} {st : Stmt} {k : Nat}, 6 ≤ k → FnS (.fn0 P w K mg base N st k) "_law_refused" 2 [] (upF F__law_refused) := fun {N st k} hk => by
    rw [F__law_refused_def]; exact fnS_of (k := 5) F_law_refused b_law_refused m_law_refused sc__law_refused rfl (b__law_refused T (I_Feeder (by omega)) (M_Feeder_feed (by omega)) (gd_join_lines (by omega)) (g_join_lines (by omega)) (g_longest (by omega)) (g_look_at_line (by omega)) (g_split_lines (by omega))) upF_mono up_runF (by omega)
  obtain ⟨Ca_Feeder_end, f_Feeder_end, fd_Feeder_end, FFeeder_end, bFeeder_end, nFeeder_end, cFeeder_end, tFeeder_end⟩ := D.d_Feeder_end
  have M_Feeder_end : ∀ {N : List Str} {st : Stmt} {k : Nat}, 1 ≤ k → FnM (.fn0 P w K mg base N st k) "Feeder" "end" 1 (upF F_Feeder_end) := fun {N st k} hk => by
    rw [F_Feeder_end_def]; exact fnM_of (k := 0) FFeeder_end bFeeder_end nFeeder_end cFeeder_end tFeeder_end sc_Feeder_end rfl (b_Feeder_end T ) upF_mono up_runF (by omega)
  exact law_fin (k := 40) F sc_law (b_law T (I_Feeder (by omega)) (M_Feeder_end (by omega)) (M_Feeder_feed (by omega)) (g__law_draw (by omega)) (g__law_draws (by omega)) (g__law_line (by omega)) (g__law_refused (by omega)) (g__law_same 40 (by omega)) (g__law_split (by omega)) (g_is_line (by omega)) (gd_join_lines (by omega)) (g_join_lines (by omega)) (g_longest (by omega)) (g_split_lines (by omega))) F_law_def law_true
theorem all_fin {P : Program} {w : World} {K : PySem.W.Frag} {mg : Str → Option Value} {fa : Addr} (hmg : mg "law" = some (.ref fa)) (TD : Txt K mg ∧ Defs K mg) :
    ∃ fd : FuncData, (∀ (s : Shared) (u : Value), BindsTo s fd ⟨[u], []⟩ [("script", u)]) ∧ ∀ base : Heap, K.In base → base.Ns mainGlobals mg → FnOk P w K mg base (L2.CX P w) 41 fa fd ["script"] (spScript K) := by
  obtain ⟨f, fd, F, bt, m⟩ := TD.2.d_law
  have e := hmg.symm.trans m
  cases e
  exact ⟨fd, bt, fun base _ _ => fin TD.1 TD.2 F⟩
end k05
set_option Elab.async false
open PySem PySem.W PyProof.Rows
set_option maxRecDepth 100000 in
set_option maxHeartbeats 0 in
theorem PySem.Challenge.cw_logsturn_k05_lines_holds : PySem.Challenge.rw_logsturn_k05_lines.Holds := by
  w_on; o_law; k_head; (case hw => w_witness2)
  k_fill
  refine PP.walkP (l := PySem.Challenge.rw_logsturn_k05_lines) (k := 41) rfl rfl ⟨rfl, by decide, by decide⟩ (fun w h Y => PySem.W.kIn_of Y) ?F
  case F =>
    intro w mg fa h KX G hmg
    refine' k05.all_fin hmg (k05.all_mk KX G ?aC_BadLine ?aC_Feeder ?xx_BadLine ?xk_BadLine ?xt_BadLine ?xs_BadLine ?eg_BadLine ?eh_BadLine ?ed_BadLine ?ea_BadLine ?em_BadLine ?esn ?est ?m_BadLine_BadLine ?i_BadLine_ValueError ?z_ValueError ?z_all ?z_bool ?z_int ?z_isinstance ?z_len ?z_list ?z_max ?z_ord ?z_range ?z_str ?z_tuple ?pg_Feeder ?hd_Feeder ?po_Feeder ?sb_Feeder ?ms_Feeder ?kc_Feeder ?nf_Feeder_most ?nf_Feeder_rest ?nf_Feeder_cut ?a_is_integer ?l_is_integer ?c_is_integer ?k_is_integer ?a_is_sign ?l_is_sign ?c_is_sign ?k_is_sign ?a_is_text ?l_is_text ?c_is_text ?k_is_text ?a_is_line ?l_is_line ?c_is_line ?k_is_line ?a_look_at_line ?l_look_at_line ?c_look_at_line ?k_look_at_line ?a_look_at_lines ?l_look_at_lines ?c_look_at_lines ?k_look_at_lines ?a_split_lines ?l_split_lines ?c_split_lines ?k_split_lines ?a_join_lines ?l_join_lines ?lT_join_lines ?c_join_lines ?k_join_lines ?a_longest ?l_longest ?c_longest ?k_longest ?a__law_draws ?l__law_draws ?c__law_draws ?k__law_draws ?a__law_draw ?l__law_draw ?c__law_draw ?k__law_draw ?a__law_same ?l__law_same ?c__law_same ?k__law_same ?a__law_line ?l__law_line ?c__law_line ?k__law_line ?a__law_split ?l__law_split ?c__law_split ?k__law_split ?mt_Feeder___init__ ?l_Feeder___init__ ?c_Feeder___init__ ?k_Feeder___init__ ?fn_Feeder___init__ ?mt_Feeder_feed ?l_Feeder_feed ?c_Feeder_feed ?k_Feeder_feed ?fn_Feeder_feed ?a__law_refused ?l__law_refused ?c__law_refused ?k__law_refused ?mt_Feeder_end ?l_Feeder_end ?c_Feeder_end ?k_Feeder_end ?fn_Feeder_end ?a_law ?l_law ?c_law ?k_law)
    (case aC_BadLine => first | k_is | k_exc | rfl | decide +kernel)
    (case aC_Feeder => first | k_is | k_exc | rfl | decide +kernel)
    (case xx_BadLine => first | k_is | k_exc | rfl | decide +kernel)
    (case xk_BadLine => first | k_is | k_exc | rfl | decide +kernel)
    (case xt_BadLine => first | k_is | k_exc | rfl | decide +kernel)
    (case xs_BadLine => first | k_is | k_exc | rfl | decide +kernel)
    (case eg_BadLine => first | k_is | k_exc | rfl | decide +kernel)
    (case eh_BadLine => first | k_is | k_exc | rfl | decide +kernel)
    (case ed_BadLine => first | k_is | k_exc | rfl | decide +kernel)
    (case ea_BadLine => first | k_is | k_exc | rfl | decide +kernel)
    (case em_BadLine => first | k_is | k_exc | rfl | decide +kernel)
    (case esn => first | k_is | k_exc | rfl | decide +kernel)
    (case est => first | k_is | k_exc | rfl | decide +kernel)
    (case m_BadLine_BadLine => first | k_is | k_exc | rfl | decide +kernel)
    (case i_BadLine_ValueError => first | k_is | k_exc | rfl | decide +kernel)
    (case z_ValueError => first | k_is | k_exc | rfl | decide +kernel)
    (case z_all => first | k_is | k_exc | rfl | decide +kernel)
    (case z_bool => first | k_is | k_exc | rfl | decide +kernel)
    (case z_int => first | k_is | k_exc | rfl | decide +kernel)
    (case z_isinstance => first | k_is | k_exc | rfl | decide +kernel)
    (case z_len => first | k_is | k_exc | rfl | decide +kernel)
    (case z_list => first | k_is | k_exc | rfl | decide +kernel)
    (case z_max => first | k_is | k_exc | rfl | decide +kernel)
    (case z_ord => first | k_is | k_exc | rfl | decide +kernel)
    (case z_range => first | k_is | k_exc | rfl | decide +kernel)
    (case z_str => first | k_is | k_exc | rfl | decide +kernel)
    (case z_tuple => first | k_is | k_exc | rfl | decide +kernel)
    (case pg_Feeder => first | k_is | k_exc | rfl | decide +kernel)
    (case hd_Feeder => first | k_is | k_exc | rfl | decide +kernel)
    (case po_Feeder => first | k_is | k_exc | rfl | decide +kernel)
    (case sb_Feeder => first | k_is | k_exc | rfl | decide +kernel)
    (case ms_Feeder => first | k_is | k_exc | rfl | decide +kernel)
    (case kc_Feeder => first | k_is | k_exc | rfl | decide +kernel)
    (case nf_Feeder_most => first | k_is | k_exc | rfl | decide +kernel)
    (case nf_Feeder_rest => first | k_is | k_exc | rfl | decide +kernel)
    (case nf_Feeder_cut => first | k_is | k_exc | rfl | decide +kernel)
    (case a_is_integer => first | k_is | k_exc | rfl | decide +kernel)
    (case l_is_integer => first | k_is | k_exc | rfl | decide +kernel)
    (case c_is_integer => first | k_is | k_exc | rfl | decide +kernel)
    (case k_is_integer => first | k_is | k_exc | rfl | decide +kernel)
    (case a_is_sign => first | k_is | k_exc | rfl | decide +kernel)
    (case l_is_sign => first | k_is | k_exc | rfl | decide +kernel)
    (case c_is_sign => first | k_is | k_exc | rfl | decide +kernel)
    (case k_is_sign => first | k_is | k_exc | rfl | decide +kernel)
    (case a_is_text => first | k_is | k_exc | rfl | decide +kernel)
    (case l_is_text => first | k_is | k_exc | rfl | decide +kernel)
    (case c_is_text => first | k_is | k_exc | rfl | decide +kernel)
    (case k_is_text => first | k_is | k_exc | rfl | decide +kernel)
    (case a_is_line => first | k_is | k_exc | rfl | decide +kernel)
    (case l_is_line => first | k_is | k_exc | rfl | decide +kernel)
    (case c_is_line => first | k_is | k_exc | rfl | decide +kernel)
    (case k_is_line => first | k_is | k_exc | rfl | decide +kernel)
    (case a_look_at_line => first | k_is | k_exc | rfl | decide +kernel)
    (case l_look_at_line => first | k_is | k_exc | rfl | decide +kernel)
    (case c_look_at_line => first | k_is | k_exc | rfl | decide +kernel)
    (case k_look_at_line => first | k_is | k_exc | rfl | decide +kernel)
    (case a_look_at_lines => first | k_is | k_exc | rfl | decide +kernel)
    (case l_look_at_lines => first | k_is | k_exc | rfl | decide +kernel)
    (case c_look_at_lines => first | k_is | k_exc | rfl | decide +kernel)
    (case k_look_at_lines => first | k_is | k_exc | rfl | decide +kernel)
    (case a_split_lines => first | k_is | k_exc | rfl | decide +kernel)
    (case l_split_lines => first | k_is | k_exc | rfl | decide +kernel)
    (case c_split_lines => first | k_is | k_exc | rfl | decide +kernel)
    (case k_split_lines => first | k_is | k_exc | rfl | decide +kernel)
    (case a_join_lines => first | k_is | k_exc | rfl | decide +kernel)
    (case l_join_lines => first | k_is | k_exc | rfl | decide +kernel)
    (case lT_join_lines => first | k_is | k_exc | rfl | decide +kernel)
    (case c_join_lines => first | k_is | k_exc | rfl | decide +kernel)
    (case k_join_lines => first | k_is | k_exc | rfl | decide +kernel)
    (case a_longest => first | k_is | k_exc | rfl | decide +kernel)
    (case l_longest => first | k_is | k_exc | rfl | decide +kernel)
    (case c_longest => first | k_is | k_exc | rfl | decide +kernel)
    (case k_longest => first | k_is | k_exc | rfl | decide +kernel)
    (case a__law_draws => first | k_is | k_exc | rfl | decide +kernel)
    (case l__law_draws => first | k_is | k_exc | rfl | decide +kernel)
    (case c__law_draws => first | k_is | k_exc | rfl | decide +kernel)
    (case k__law_draws => first | k_is | k_exc | rfl | decide +kernel)
    (case a__law_draw => first | k_is | k_exc | rfl | decide +kernel)
    (case l__law_draw => first | k_is | k_exc | rfl | decide +kernel)
    (case c__law_draw => first | k_is | k_exc | rfl | decide +kernel)
    (case k__law_draw => first | k_is | k_exc | rfl | decide +kernel)
    (case a__law_same => first | k_is | k_exc | rfl | decide +kernel)
    (case l__law_same => first | k_is | k_exc | rfl | decide +kernel)
    (case c__law_same => first | k_is | k_exc | rfl | decide +kernel)
    (case k__law_same => first | k_is | k_exc | rfl | decide +kernel)
    (case a__law_line => first | k_is | k_exc | rfl | decide +kernel)
    (case l__law_line => first | k_is | k_exc | rfl | decide +kernel)
    (case c__law_line => first | k_is | k_exc | rfl | decide +kernel)
    (case k__law_line => first | k_is | k_exc | rfl | decide +kernel)
    (case a__law_split => first | k_is | k_exc | rfl | decide +kernel)
    (case l__law_split => first | k_is | k_exc | rfl | decide +kernel)
    (case c__law_split => first | k_is | k_exc | rfl | decide +kernel)
    (case k__law_split => first | k_is | k_exc | rfl | decide +kernel)
    (case mt_Feeder___init__ => first | k_is | k_exc | rfl | decide +kernel)
    (case l_Feeder___init__ => first | k_is | k_exc | rfl | decide +kernel)
    (case c_Feeder___init__ => first | k_is | k_exc | rfl | decide +kernel)
    (case k_Feeder___init__ => first | k_is | k_exc | rfl | decide +kernel)
    (case fn_Feeder___init__ => first | k_is | k_exc | rfl | decide +kernel)
    (case mt_Feeder_feed => first | k_is | k_exc | rfl | decide +kernel)
    (case l_Feeder_feed => first | k_is | k_exc | rfl | decide +kernel)
    (case c_Feeder_feed => first | k_is | k_exc | rfl | decide +kernel)
    (case k_Feeder_feed => first | k_is | k_exc | rfl | decide +kernel)
    (case fn_Feeder_feed => first | k_is | k_exc | rfl | decide +kernel)
    (case a__law_refused => first | k_is | k_exc | rfl | decide +kernel)
    (case l__law_refused => first | k_is | k_exc | rfl | decide +kernel)
    (case c__law_refused => first | k_is | k_exc | rfl | decide +kernel)
    (case k__law_refused => first | k_is | k_exc | rfl | decide +kernel)
    (case mt_Feeder_end => first | k_is | k_exc | rfl | decide +kernel)
    (case l_Feeder_end => first | k_is | k_exc | rfl | decide +kernel)
    (case c_Feeder_end => first | k_is | k_exc | rfl | decide +kernel)
    (case k_Feeder_end => first | k_is | k_exc | rfl | decide +kernel)
    (case fn_Feeder_end => first | k_is | k_exc | rfl | decide +kernel)
    (case a_law => first | k_is | k_exc | rfl | decide +kernel)
    (case l_law => first | k_is | k_exc | rfl | decide +kernel)
    (case c_law => first | k_is | k_exc | rfl | decide +kernel)
    (case k_law => first | k_is | k_exc | rfl | decide +kernel)
#print axioms PySem.Challenge.cw_logsturn_k05_lines_holds
